/- event.Check, of the two events that matter; the maps of functions. -/
import Derived.Test.YtpkjdjhojbadhaaGreatDoorTop5
import Derived.WalkMore
set_option linter.unusedVariables false
set_option linter.unusedSimpArgs false
namespace Go.Proofs.YtpkjdjhojbadhaaGreatDoor.Hp
open Go.RowKit Go.Proofs.YtpkjdjhojbadhaaGreatDoorW.PrintWords Go.Proofs.YtpkjdjhojbadhaaGreatDoorW.PrintLast Go.Proofs.YtpkjdjhojbadhaaGreatDoorW.PrintMore
attribute [local go_sem] max2_int min2_int max_two min_two max_three min_three max_four min_four
theorem ins_run {P : Program} {t k e : TypeId} {q : IntKind} {es : Array MapEntry} {c : Nat} {n : Int} {v : Value} {X : World} (ht : P.underlying t = some (.map k e)) (hk : P.underlying k = some (.int q))
    (hnew : Instr.findNow (.int q) (.int q n) es.toList 0 = some none) :
    (Instr.mapUpdate t (.map (some X.heap.size)) (.int q n) v).run P (X.alloc (.map es c)) = .ok () (X.alloc (.map (es.push ⟨.int q n, v, c⟩) (c + 1))) := by
  have hb : (X.alloc (.map es c)).heap[X.heap.size]? = some (.map es c) := by unfold World.alloc; simp
  have hc := MapKept.run_checkKey (w := X.alloc (.map es c)) (k := .int q n) hk (by simp [MapKept.IsKey]) false 9999
  simp [Instr.mapUpdate, run_underlying ht, MapKept.run_getObj_map hb, hc, Instr.findKey, run_underlying hk, hnew, MapKept.run_setObj_map _ hb, Result.andThen]
  unfold World.alloc
  congr 1
  refine Array.ext_getElem? fun i => ?_
  rw [Array.getElem?_setIfInBounds, Array.getElem?_push, Array.getElem?_push]
  by_cases h : X.heap.size = i
  · subst h; simp
  · rw [if_neg h, if_neg (fun e => h e.symm), if_neg (fun e => h e.symm)]
theorem look_hit {P : Program} {t k e : TypeId} {q : IntKind} {es : Array MapEntry} {c b i : Nat} {n : Int} {v : Value} {X : World} (ht : P.underlying t = some (.map k e)) (hk : P.underlying k = some (.int q))
    (hb : X.heap[b]? = some (.map es c)) (hf : Instr.findNow (.int q) (.int q n) es.toList 0 = some (some (i, v))) :
    (Instr.lookup t (.map (some b)) (.int q n) true).run P X = .ok (.tuple #[v, .bool true]) X := by
  have hc := MapKept.run_checkKey (w := X) (k := .int q n) hk (by simp [MapKept.IsKey]) es.isEmpty 9999
  simp [Instr.lookup, run_underlying ht, MapKept.run_getObj_map hb, hc, Instr.findKey, run_underlying hk, hf, Result.andThen]
theorem look_hit1 {P : Program} {t k e : TypeId} {q : IntKind} {es : Array MapEntry} {c b i : Nat} {n : Int} {v : Value} {X : World} (ht : P.underlying t = some (.map k e)) (hk : P.underlying k = some (.int q))
    (hb : X.heap[b]? = some (.map es c)) (hf : Instr.findNow (.int q) (.int q n) es.toList 0 = some (some (i, v))) :
    (Instr.lookup t (.map (some b)) (.int q n) false).run P X = .ok v X := by
  have hc := MapKept.run_checkKey (w := X) (k := .int q n) hk (by simp [MapKept.IsKey]) es.isEmpty 9999
  simp [Instr.lookup, run_underlying ht, MapKept.run_getObj_map hb, hc, Instr.findKey, run_underlying hk, hf, Result.andThen]
/-- The entries of event.kinds' map. -/
def entsK : Nat → Array MapEntry
  | 0 => #[]
  | 1 => #[⟨.int .i64 1, .func (.func 87) #[] #[], 0⟩]
  | 2 => #[⟨.int .i64 1, .func (.func 87) #[] #[], 0⟩, ⟨.int .i64 2, .func (.func 88) #[] #[], 1⟩]
  | 3 => #[⟨.int .i64 1, .func (.func 87) #[] #[], 0⟩, ⟨.int .i64 2, .func (.func 88) #[] #[], 1⟩, ⟨.int .i64 6, .func (.func 88) #[] #[], 2⟩]
  | 4 => #[⟨.int .i64 1, .func (.func 87) #[] #[], 0⟩, ⟨.int .i64 2, .func (.func 88) #[] #[], 1⟩, ⟨.int .i64 6, .func (.func 88) #[] #[], 2⟩, ⟨.int .i64 3, .func (.func 89) #[] #[], 3⟩]
  | 5 => #[⟨.int .i64 1, .func (.func 87) #[] #[], 0⟩, ⟨.int .i64 2, .func (.func 88) #[] #[], 1⟩, ⟨.int .i64 6, .func (.func 88) #[] #[], 2⟩, ⟨.int .i64 3, .func (.func 89) #[] #[], 3⟩, ⟨.int .i64 4, .func (.func 89) #[] #[], 4⟩]
  | 6 => #[⟨.int .i64 1, .func (.func 87) #[] #[], 0⟩, ⟨.int .i64 2, .func (.func 88) #[] #[], 1⟩, ⟨.int .i64 6, .func (.func 88) #[] #[], 2⟩, ⟨.int .i64 3, .func (.func 89) #[] #[], 3⟩, ⟨.int .i64 4, .func (.func 89) #[] #[], 4⟩, ⟨.int .i64 5, .func (.func 89) #[] #[], 5⟩]
  | _ => #[⟨.int .i64 1, .func (.func 87) #[] #[], 0⟩, ⟨.int .i64 2, .func (.func 88) #[] #[], 1⟩, ⟨.int .i64 6, .func (.func 88) #[] #[], 2⟩, ⟨.int .i64 3, .func (.func 89) #[] #[], 3⟩, ⟨.int .i64 4, .func (.func 89) #[] #[], 4⟩, ⟨.int .i64 5, .func (.func 89) #[] #[], 5⟩, ⟨.int .i64 7, .func (.func 89) #[] #[], 6⟩]
/-- The entries of engine.Do's map. -/
def entsD : Nat → Array MapEntry
  | 0 => #[]
  | 1 => #[⟨.int .i64 6, .func (.func 24) #[] #[], 0⟩]
  | 2 => #[⟨.int .i64 6, .func (.func 24) #[] #[], 0⟩, ⟨.int .i64 1, .func (.func 25) #[] #[], 1⟩]
  | 3 => #[⟨.int .i64 6, .func (.func 24) #[] #[], 0⟩, ⟨.int .i64 1, .func (.func 25) #[] #[], 1⟩, ⟨.int .i64 2, .func (.func 26) #[] #[], 2⟩]
  | 4 => #[⟨.int .i64 6, .func (.func 24) #[] #[], 0⟩, ⟨.int .i64 1, .func (.func 25) #[] #[], 1⟩, ⟨.int .i64 2, .func (.func 26) #[] #[], 2⟩, ⟨.int .i64 3, .func (.func 27) #[] #[], 3⟩]
  | 5 => #[⟨.int .i64 6, .func (.func 24) #[] #[], 0⟩, ⟨.int .i64 1, .func (.func 25) #[] #[], 1⟩, ⟨.int .i64 2, .func (.func 26) #[] #[], 2⟩, ⟨.int .i64 3, .func (.func 27) #[] #[], 3⟩, ⟨.int .i64 4, .func (.func 28) #[] #[], 4⟩]
  | 6 => #[⟨.int .i64 6, .func (.func 24) #[] #[], 0⟩, ⟨.int .i64 1, .func (.func 25) #[] #[], 1⟩, ⟨.int .i64 2, .func (.func 26) #[] #[], 2⟩, ⟨.int .i64 3, .func (.func 27) #[] #[], 3⟩, ⟨.int .i64 4, .func (.func 28) #[] #[], 4⟩, ⟨.int .i64 5, .func (.func 29) #[] #[], 5⟩]
  | _ => #[⟨.int .i64 6, .func (.func 24) #[] #[], 0⟩, ⟨.int .i64 1, .func (.func 25) #[] #[], 1⟩, ⟨.int .i64 2, .func (.func 26) #[] #[], 2⟩, ⟨.int .i64 3, .func (.func 27) #[] #[], 3⟩, ⟨.int .i64 4, .func (.func 28) #[] #[], 4⟩, ⟨.int .i64 5, .func (.func 29) #[] #[], 5⟩, ⟨.int .i64 7, .func (.func 30) #[] #[], 6⟩]
set_option maxHeartbeats 1600000 in
set_option maxRecDepth 100000 in
theorem kinds.calls (w : World) :
    Calls Tryz.prog 46 #[] w fun e w' => e = .returned (.map (some w.heap.size)) ∧ w' = w.alloc (.map (entsK 7) 7) := by
  have hmm : ∀ X : World, (Instr.makeMap 96 none).run Tryz.prog X = .ok (.map (some X.heap.size)) (X.alloc (.map (entsK 0) 0)) := fun X => @run_makeMap Tryz.prog 96 X
  have i0 : ∀ (X : World) (k : Nat), k = X.heap.size → (Instr.mapUpdate 96 (.map (some k)) (.int .i64 1) (.func (.func 87) #[] #[])).run Tryz.prog (X.alloc (.map (entsK 0) 0)) = .ok () (X.alloc (.map (entsK 1) 1)) := by
    rintro X k rfl
    exact ins_run Tryz.underlying96 Tryz.underlying3 rfl
  have i1 : ∀ (X : World) (k : Nat), k = X.heap.size → (Instr.mapUpdate 96 (.map (some k)) (.int .i64 2) (.func (.func 88) #[] #[])).run Tryz.prog (X.alloc (.map (entsK 1) 1)) = .ok () (X.alloc (.map (entsK 2) 2)) := by
    rintro X k rfl
    exact ins_run Tryz.underlying96 Tryz.underlying3 rfl
  have i2 : ∀ (X : World) (k : Nat), k = X.heap.size → (Instr.mapUpdate 96 (.map (some k)) (.int .i64 6) (.func (.func 88) #[] #[])).run Tryz.prog (X.alloc (.map (entsK 2) 2)) = .ok () (X.alloc (.map (entsK 3) 3)) := by
    rintro X k rfl
    exact ins_run Tryz.underlying96 Tryz.underlying3 rfl
  have i3 : ∀ (X : World) (k : Nat), k = X.heap.size → (Instr.mapUpdate 96 (.map (some k)) (.int .i64 3) (.func (.func 89) #[] #[])).run Tryz.prog (X.alloc (.map (entsK 3) 3)) = .ok () (X.alloc (.map (entsK 4) 4)) := by
    rintro X k rfl
    exact ins_run Tryz.underlying96 Tryz.underlying3 rfl
  have i4 : ∀ (X : World) (k : Nat), k = X.heap.size → (Instr.mapUpdate 96 (.map (some k)) (.int .i64 4) (.func (.func 89) #[] #[])).run Tryz.prog (X.alloc (.map (entsK 4) 4)) = .ok () (X.alloc (.map (entsK 5) 5)) := by
    rintro X k rfl
    exact ins_run Tryz.underlying96 Tryz.underlying3 rfl
  have i5 : ∀ (X : World) (k : Nat), k = X.heap.size → (Instr.mapUpdate 96 (.map (some k)) (.int .i64 5) (.func (.func 89) #[] #[])).run Tryz.prog (X.alloc (.map (entsK 5) 5)) = .ok () (X.alloc (.map (entsK 6) 6)) := by
    rintro X k rfl
    exact ins_run Tryz.underlying96 Tryz.underlying3 rfl
  have i6 : ∀ (X : World) (k : Nat), k = X.heap.size → (Instr.mapUpdate 96 (.map (some k)) (.int .i64 7) (.func (.func 89) #[] #[])).run Tryz.prog (X.alloc (.map (entsK 6) 6)) = .ok () (X.alloc (.map (entsK 7) 7)) := by
    rintro X k rfl
    exact ins_run Tryz.underlying96 Tryz.underlying3 rfl
  go_enter Tryz.func46, Tryz.ntmps46
  go_wp2
  go_ret
  exact ⟨rfl, rfl⟩
set_option maxHeartbeats 1600000 in
set_option maxRecDepth 100000 in
theorem full87.calls (k a n : Int) (w : World) (h0 : 1 ≤ n) (h1 : n ≤ 1073741824) :
    Calls Tryz.prog 87 #[.agg #[.int .i64 (k), .int .i64 (a), .int .i64 (n), .int .i64 100000]] w fun e w' => e = .returned (.bool true) ∧ Below w.heap.size w w' := by
  have c0 : decide (n ≥ 1) = true := decide_eq_true h0
  have c1 : decide (n ≤ 1073741824) = true := decide_eq_true h1
  go_enter Tryz.func87, Tryz.ntmps87
  go_wp2
  go_ret
  exact ⟨rfl, (by (repeat (first | with_reducible exact HB.out | with_reducible exact Below.refl _ _ | with_reducible apply below_alloc | with_reducible apply pw_below_drewN | with_reducible apply below_drew1 | (with_reducible refine below_set ?_ ?hy; (case hy => omega)))))⟩
set_option maxHeartbeats 1600000 in
set_option maxRecDepth 100000 in
theorem bytes88.calls (k a n : Int) (w : World) (h0 : 1 ≤ n) (h1 : n ≤ 1073741824) :
    Calls Tryz.prog 88 #[.agg #[.int .i64 (k), .int .i64 (a), .int .i64 (n), .int .i64 0]] w fun e w' => e = .returned (.bool true) ∧ Below w.heap.size w w' := by
  have c0 : decide (n ≥ 1) = true := decide_eq_true h0
  have c1 : decide (n ≤ 1073741824) = true := decide_eq_true h1
  go_enter Tryz.func88, Tryz.ntmps88
  go_wp2
  go_ret
  exact ⟨rfl, (by (repeat (first | with_reducible exact HB.out | with_reducible exact Below.refl _ _ | with_reducible apply below_alloc | with_reducible apply pw_below_drewN | with_reducible apply below_drew1 | (with_reducible refine below_set ?_ ?hy; (case hy => omega)))))⟩
set_option maxHeartbeats 1600000 in
set_option maxRecDepth 100000 in
theorem evSend.calls (a n : Int) (w : World) (h0 : 1 ≤ n) (h1 : n ≤ 1073741824) (h2 : 0 ≤ a) (h3 : a ≤ 1099511627776) :
    Calls Tryz.prog 17 #[.agg #[.int .i64 6, .int .i64 (a), .int .i64 (n), .int .i64 0]] w fun e w' => e = .returned (.int .i64 0) ∧ Below w.heap.size w w' := by
  have D := Aside0.mk (fun W => bytes88.calls 6 a n W h0 h1)
  have c0 : decide (a ≥ 0) = true := decide_eq_true h2
  have c1 : decide (a ≤ 1099511627776) = true := decide_eq_true h3
  have lk : ∀ (X : World) (q : Nat), q = X.heap.size → (Instr.lookup 96 (.map (some q)) (.int .i64 6) true).run Tryz.prog (X.alloc (.map (entsK 7) 7)) = .ok (.tuple #[.func (.func 88) #[] #[], .bool true]) (X.alloc (.map (entsK 7) 7)) := by
    rintro X q rfl
    exact look_hit (i := 2) Tryz.underlying96 Tryz.underlying3 (blk_new _ _) rfl
  have lk2 : ∀ (X : World) (q : Nat), q = X.heap.size → (Instr.lookup 96 (.map (some q)) (.int .i64 6) true).run Tryz.prog ((X.alloc (.map (entsK 7) 7)).drew) = .ok (.tuple #[.func (.func 88) #[] #[], .bool true]) ((X.alloc (.map (entsK 7) 7)).drew) := by
    rintro X q rfl
    exact look_hit (i := 2) Tryz.underlying96 Tryz.underlying3 (blk_drew (blk_new _ _)) rfl
  go_enter Tryz.func17, Tryz.ntmps17
  go_wp2_with fail
  refine name_world (fun w_ => (w_.heap[w.heap.size]? = some (.cells #[.int .i64 6, .int .i64 (a), .int .i64 (n), .int .i64 0] 52 (0, 0))) ∧ Below w.heap.size w w_) ⟨by (repeat (first | (with_reducible refine new_at _ _ _ ?hn; (case hn => first | rfl | (simp; done))) | with_reducible refine blk_alloc ?_ _ | with_reducible refine blk_drewN ?_ _ | with_reducible refine blk_drew ?_ | (with_reducible refine blk_far ?_ ?hb _; (case hb => first | omega | (simp; done) | (simp; omega))))), by (repeat (first | with_reducible exact HB.out | with_reducible exact Below.refl _ _ | with_reducible apply below_alloc | with_reducible apply pw_below_drewN | with_reducible apply below_drew1 | (with_reducible refine below_set ?_ ?hy; (case hy => omega))))⟩ ?_
  rintro w1 ⟨n0_, nb_⟩
  replace n0_ := Aside0.mk n0_
  replace nb_ := Aside0.mk nb_
  have B0 := n0_
  have B0c0 : w1.cell? ⟨w.heap.size, 0, none⟩ = some (.int .i64 6) := (blk_cell B0.out 0).trans rfl
  have B0f0 : w1.frozen? ⟨w.heap.size, 0, none⟩ = false := blk_frozen B0.out 0
  have B0c1 : w1.cell? ⟨w.heap.size, 1, none⟩ = some (.int .i64 (a)) := (blk_cell B0.out 1).trans rfl
  have B0f1 : w1.frozen? ⟨w.heap.size, 1, none⟩ = false := blk_frozen B0.out 1
  have B0c2 : w1.cell? ⟨w.heap.size, 2, none⟩ = some (.int .i64 (n)) := (blk_cell B0.out 2).trans rfl
  have B0f2 : w1.frozen? ⟨w.heap.size, 2, none⟩ = false := blk_frozen B0.out 2
  have B0c3 : w1.cell? ⟨w.heap.size, 3, none⟩ = some (.int .i64 0) := (blk_cell B0.out 3).trans rfl
  have B0f3 : w1.frozen? ⟨w.heap.size, 3, none⟩ = false := blk_frozen B0.out 3
  have B0l := blk_lt B0.out
  have HB := nb_
  have HBs : w.heap.size ≤ w1.heap.size := HB.out.size
  clear nb_ n0_
  go_region_held3 (fun w' => w'.cell? ⟨w.heap.size, 0, none⟩ = some (.int .i64 6) ∧ w'.cell? ⟨w.heap.size, 1, none⟩ = some (.int .i64 (a)) ∧ w'.cell? ⟨w.heap.size, 2, none⟩ = some (.int .i64 (n)) ∧ w'.cell? ⟨w.heap.size, 3, none⟩ = some (.int .i64 0) ∧ Below w.heap.size w w') (first | assumption | exact ⟨B0c0, B0c1, B0c2, B0c3, below_drew1 HB.out⟩ | exact keep4_0 (below_alloc (Below.refl _ _) _) (by assumption)) (first | (go_at_call 46; (with_reducible refine (kinds.calls _).mono ?_); rintro ev w2 ⟨rfl, rfl⟩))
  clear lk lk2
  go_wp2_with (first | (go_at_call 37; go_in) | (go_at_call 88; refine (D.out _).mono ?_; rintro ev w3 ⟨rfl, hb3⟩))
  go_ret
  exact ⟨rfl, below_step (by (repeat (first | with_reducible exact HB.out | with_reducible exact Below.refl _ _ | with_reducible apply below_alloc | with_reducible apply pw_below_drewN | with_reducible apply below_drew1 | (with_reducible refine below_set ?_ ?hy; (case hy => omega))))) hb3⟩
set_option maxHeartbeats 1600000 in
set_option maxRecDepth 100000 in
theorem evAck.calls (a n : Int) (w : World) (h0 : 1 ≤ n) (h1 : n ≤ 1073741824) (h2 : 0 ≤ a) (h3 : a ≤ 1099511627776) :
    Calls Tryz.prog 17 #[.agg #[.int .i64 1, .int .i64 (a), .int .i64 (n), .int .i64 100000]] w fun e w' => e = .returned (.int .i64 0) ∧ Below w.heap.size w w' := by
  have D := Aside0.mk (fun W => full87.calls 1 a n W h0 h1)
  have c0 : decide (a ≥ 0) = true := decide_eq_true h2
  have c1 : decide (a ≤ 1099511627776) = true := decide_eq_true h3
  have lk : ∀ (X : World) (q : Nat), q = X.heap.size → (Instr.lookup 96 (.map (some q)) (.int .i64 1) true).run Tryz.prog (X.alloc (.map (entsK 7) 7)) = .ok (.tuple #[.func (.func 87) #[] #[], .bool true]) (X.alloc (.map (entsK 7) 7)) := by
    rintro X q rfl
    exact look_hit (i := 0) Tryz.underlying96 Tryz.underlying3 (blk_new _ _) rfl
  have lk2 : ∀ (X : World) (q : Nat), q = X.heap.size → (Instr.lookup 96 (.map (some q)) (.int .i64 1) true).run Tryz.prog ((X.alloc (.map (entsK 7) 7)).drew) = .ok (.tuple #[.func (.func 87) #[] #[], .bool true]) ((X.alloc (.map (entsK 7) 7)).drew) := by
    rintro X q rfl
    exact look_hit (i := 0) Tryz.underlying96 Tryz.underlying3 (blk_drew (blk_new _ _)) rfl
  go_enter Tryz.func17, Tryz.ntmps17
  go_wp2_with fail
  refine name_world (fun w_ => (w_.heap[w.heap.size]? = some (.cells #[.int .i64 1, .int .i64 (a), .int .i64 (n), .int .i64 100000] 52 (0, 0))) ∧ Below w.heap.size w w_) ⟨by (repeat (first | (with_reducible refine new_at _ _ _ ?hn; (case hn => first | rfl | (simp; done))) | with_reducible refine blk_alloc ?_ _ | with_reducible refine blk_drewN ?_ _ | with_reducible refine blk_drew ?_ | (with_reducible refine blk_far ?_ ?hb _; (case hb => first | omega | (simp; done) | (simp; omega))))), by (repeat (first | with_reducible exact HB.out | with_reducible exact Below.refl _ _ | with_reducible apply below_alloc | with_reducible apply pw_below_drewN | with_reducible apply below_drew1 | (with_reducible refine below_set ?_ ?hy; (case hy => omega))))⟩ ?_
  rintro w1 ⟨n0_, nb_⟩
  replace n0_ := Aside0.mk n0_
  replace nb_ := Aside0.mk nb_
  have B0 := n0_
  have B0c0 : w1.cell? ⟨w.heap.size, 0, none⟩ = some (.int .i64 1) := (blk_cell B0.out 0).trans rfl
  have B0f0 : w1.frozen? ⟨w.heap.size, 0, none⟩ = false := blk_frozen B0.out 0
  have B0c1 : w1.cell? ⟨w.heap.size, 1, none⟩ = some (.int .i64 (a)) := (blk_cell B0.out 1).trans rfl
  have B0f1 : w1.frozen? ⟨w.heap.size, 1, none⟩ = false := blk_frozen B0.out 1
  have B0c2 : w1.cell? ⟨w.heap.size, 2, none⟩ = some (.int .i64 (n)) := (blk_cell B0.out 2).trans rfl
  have B0f2 : w1.frozen? ⟨w.heap.size, 2, none⟩ = false := blk_frozen B0.out 2
  have B0c3 : w1.cell? ⟨w.heap.size, 3, none⟩ = some (.int .i64 100000) := (blk_cell B0.out 3).trans rfl
  have B0f3 : w1.frozen? ⟨w.heap.size, 3, none⟩ = false := blk_frozen B0.out 3
  have B0l := blk_lt B0.out
  have HB := nb_
  have HBs : w.heap.size ≤ w1.heap.size := HB.out.size
  clear nb_ n0_
  go_region_held3 (fun w' => w'.cell? ⟨w.heap.size, 0, none⟩ = some (.int .i64 1) ∧ w'.cell? ⟨w.heap.size, 1, none⟩ = some (.int .i64 (a)) ∧ w'.cell? ⟨w.heap.size, 2, none⟩ = some (.int .i64 (n)) ∧ w'.cell? ⟨w.heap.size, 3, none⟩ = some (.int .i64 100000) ∧ Below w.heap.size w w') (first | assumption | exact ⟨B0c0, B0c1, B0c2, B0c3, below_drew1 HB.out⟩ | exact keep4_0 (below_alloc (Below.refl _ _) _) (by assumption)) (first | (go_at_call 46; (with_reducible refine (kinds.calls _).mono ?_); rintro ev w2 ⟨rfl, rfl⟩))
  clear lk lk2
  go_wp2_with (first | (go_at_call 37; go_in) | (go_at_call 87; refine (D.out _).mono ?_; rintro ev w3 ⟨rfl, hb3⟩))
  go_ret
  exact ⟨rfl, below_step (by (repeat (first | with_reducible exact HB.out | with_reducible exact Below.refl _ _ | with_reducible apply below_alloc | with_reducible apply pw_below_drewN | with_reducible apply below_drew1 | (with_reducible refine below_set ?_ ?hy; (case hy => omega))))) hb3⟩

end Go.Proofs.YtpkjdjhojbadhaaGreatDoor.Hp
