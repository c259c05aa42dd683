/- Functions of the program as Lean functions, each with its contract: the call comes to that answer. Told by wip/tools/handprint.py of this session. -/
import Derived.Test.YtjanmaddjjhjbaaHpx0
import Derived.Test.YtjanmaddjjhjbaaHpx1
import Derived.Test.YtjanmaddjjhjbaaHpx2
import Derived.Test.YtjanmaddjjhjbaaHpx7
import Derived.Test.YtjanmaddjjhjbaaHpx9
namespace Go.Proofs.Ytjanmaddjjhjbaa.Hp
open Go.RowKit Go.Proofs.YtjanmaddjjhjbaaW.PrintWords Go.Proofs.YtjanmaddjjhjbaaW.PrintLast Go.Proofs.YtjanmaddjjhjbaaW.PrintMore
attribute [local go_sem] max2_int min2_int max_two min_two max_three min_three max_four min_four   -- for this text's walks alone
set_option linter.unusedVariables false
set_option linter.unusedSimpArgs false

attribute [local go_sem high] eqA23
/-! ### sawtoothlaw16_FlightSums: function 4 -/
mutual
def sawtoothlaw16_FlightSums.l0 : Nat → List (S39) → Bool → Int → Int → Int → Int → Int → Int → Int → Option (Bool)
  | 0, _, _, _, _, _, _, _, _, _ => none
  | k + 1, x0, x3, x6, x201000, x201001, x201002, x202000, x202001, x202002 => if x6 < (x0.length : Int) then (if 0 ≤ x6 then ((flight_Do.f k x201000 x201001 x201002 (([(⟨wrap64 ((rd_T39 x0 x6).f0), wrap64 ((rd_T39 x0 x6).f1), wrap64 ((rd_T39 x0 x6).f2)⟩ : S38)] : List (S38)))).bind fun bt209 => (if (bt209.2.2.2.length : Int) = 1 then (if 0 < (bt209.2.2.2.length : Int) then (if (rd bt209.2.2.2 0) = 0 then (sawtoothlaw16_FlightSums.j1 k x0 x3 x6 bt209.2.2.2 false x202000 x202001 x202002 (wrap64 ((rd_T39 x0 x6).f0)) (wrap64 ((rd_T39 x0 x6).f1)) (wrap64 ((rd_T39 x0 x6).f2)) bt209.1 bt209.2.1 bt209.2.2.1) else (sawtoothlaw16_FlightSums.j1 k x0 x3 x6 bt209.2.2.2 (!(bt209.1 == x201000) || (!(bt209.2.1 == x201001) || (!(bt209.2.2.1 == x201002)))) x202000 x202001 x202002 (wrap64 ((rd_T39 x0 x6).f0)) (wrap64 ((rd_T39 x0 x6).f1)) (wrap64 ((rd_T39 x0 x6).f2)) bt209.1 bt209.2.1 bt209.2.2.1)) else (none)) else (sawtoothlaw16_FlightSums.j1 k x0 x3 x6 bt209.2.2.2 true x202000 x202001 x202002 (wrap64 ((rd_T39 x0 x6).f0)) (wrap64 ((rd_T39 x0 x6).f1)) (wrap64 ((rd_T39 x0 x6).f2)) bt209.1 bt209.2.1 bt209.2.2.1))) else (none)) else (if x3 = true then (some true) else (some false))
def sawtoothlaw16_FlightSums.j1 : Nat → List (S39) → Bool → Int → List Int → Bool → Int → Int → Int → Int → Int → Int → Int → Int → Int → Option (Bool)
  | 0, _, _, _, _, _, _, _, _, _, _, _, _, _, _ => none
  | k + 1, x0, x3, x6, x9, x60, x202000, x202001, x202002, x206000, x206001, x206002, x216000, x216001, x216002 => if x60 = true then (some false) else (if 0 < (x9.length : Int) then (if (rd x9 0) = 0 then (if x206000 < 0 then (sawtoothlaw16_FlightSums.j2 k x0 x3 x6 true x202000 x202001 x202002 x206000 x206001 x206002 x216000 x216001 x216002) else (sawtoothlaw16_FlightSums.j2 k x0 x3 x6 (decide (x206000 > 2)) x202000 x202001 x202002 x206000 x206001 x206002 x216000 x216001 x216002)) else ((flight_Check.f x216000 x216001 x216002).bind fun t221 => (if t221 = true then (if x216000 = x202000 then (if x216001 = x202001 then (if x216002 = (wrap64 ((wrap64 (x202000 - x202001)) - x202002)) then (sawtoothlaw16_FlightSums.l0 k x0 x3 (wrap64 (x6 + 1)) x216000 x216001 x216002 x202000 x202001 x202002) else (some false)) else (some false)) else (some false)) else (some false)))) else (none))
def sawtoothlaw16_FlightSums.j2 : Nat → List (S39) → Bool → Int → Bool → Int → Int → Int → Int → Int → Int → Int → Int → Int → Option (Bool)
  | 0, _, _, _, _, _, _, _, _, _, _, _, _, _ => none
  | k + 1, x0, x3, x6, x72, x202000, x202001, x202002, x206000, x206001, x206002, x216000, x216001, x216002 => if x72 = true then (some false) else (if x206000 = 0 then ((flight_Check.f x216000 x216001 x216002).bind fun t218 => (if t218 = true then (if x216000 = (wrap64 (x202000 + x206001)) then (if x216001 = x202001 then (if x216002 = (wrap64 ((wrap64 ((wrap64 (x202000 + x206001)) - x202001)) - x202002)) then (sawtoothlaw16_FlightSums.l0 k x0 x3 (wrap64 (x6 + 1)) x216000 x216001 x216002 (wrap64 (x202000 + x206001)) x202001 x202002) else (some false)) else (some false)) else (some false)) else (some false))) else (if x206000 = 1 then ((flight_Check.f x216000 x216001 x216002).bind fun t219 => (if t219 = true then (if x216000 = x202000 then (if x216001 = (wrap64 (x202001 + x206001)) then (if x216002 = (wrap64 ((wrap64 (x202000 - (wrap64 (x202001 + x206001)))) - x202002)) then (sawtoothlaw16_FlightSums.l0 k x0 x3 (wrap64 (x6 + 1)) x216000 x216001 x216002 x202000 (wrap64 (x202001 + x206001)) x202002) else (some false)) else (some false)) else (some false)) else (some false))) else (if x206000 = 2 then ((flight_Check.f x216000 x216001 x216002).bind fun t220 => (if t220 = true then (if x216000 = x202000 then (if x216001 = x202001 then (if x216002 = (wrap64 ((wrap64 (x202000 - x202001)) - (wrap64 (x202002 + x206001)))) then (sawtoothlaw16_FlightSums.l0 k x0 x3 (wrap64 (x6 + 1)) x216000 x216001 x216002 x202000 x202001 (wrap64 (x202002 + x206001))) else (some false)) else (some false)) else (some false)) else (some false))) else (none))))
end
def sawtoothlaw16_FlightSums.f (k : Nat) (l0 : List (S39)) : Option (Bool) := (sawtoothlaw16_awake.f k).bind fun t199 => (if (l0.length : Int) > 100 then (if t199 = true then (some true) else (some false)) else (sawtoothlaw16_FlightSums.l0 k l0 t199 0 0 0 0 0 0 0))
theorem sawtoothlaw16_FlightSums.mono_l : ∀ k, (∀ y0 y1 y2 y3 y4 y5 y6 y7 y8, LeO (sawtoothlaw16_FlightSums.l0 k y0 y1 y2 y3 y4 y5 y6 y7 y8) (sawtoothlaw16_FlightSums.l0 (k + 1) y0 y1 y2 y3 y4 y5 y6 y7 y8)) ∧ (∀ y0 y1 y2 y3 y4 y5 y6 y7 y8 y9 y10 y11 y12 y13, LeO (sawtoothlaw16_FlightSums.j1 k y0 y1 y2 y3 y4 y5 y6 y7 y8 y9 y10 y11 y12 y13) (sawtoothlaw16_FlightSums.j1 (k + 1) y0 y1 y2 y3 y4 y5 y6 y7 y8 y9 y10 y11 y12 y13)) ∧ (∀ y0 y1 y2 y3 y4 y5 y6 y7 y8 y9 y10 y11 y12, LeO (sawtoothlaw16_FlightSums.j2 k y0 y1 y2 y3 y4 y5 y6 y7 y8 y9 y10 y11 y12) (sawtoothlaw16_FlightSums.j2 (k + 1) y0 y1 y2 y3 y4 y5 y6 y7 y8 y9 y10 y11 y12))
  | 0 => ⟨fun _ _ _ _ _ _ _ _ _ r h => by simp [sawtoothlaw16_FlightSums.l0] at h, fun _ _ _ _ _ _ _ _ _ _ _ _ _ _ r h => by simp [sawtoothlaw16_FlightSums.j1] at h, fun _ _ _ _ _ _ _ _ _ _ _ _ _ r h => by simp [sawtoothlaw16_FlightSums.j2] at h⟩
  | k + 1 => by
    obtain ⟨ih0, ih1, ih2⟩ := sawtoothlaw16_FlightSums.mono_l k
    refine ⟨?_, ?_, ?_⟩
    · intro y0 y1 y2 y3 y4 y5 y6 y7 y8
      unfold sawtoothlaw16_FlightSums.l0
      repeat' first
      | (with_reducible exact ih0 _ _ _ _ _ _ _ _ _)
      | (with_reducible exact ih1 _ _ _ _ _ _ _ _ _ _ _ _ _ _)
      | (with_reducible exact ih2 _ _ _ _ _ _ _ _ _ _ _ _ _)
      | (with_reducible exact flight_Do.mono _ _ _ _ _)
      | (with_reducible exact sawtoothlaw16_awake.mono _)
      | (with_reducible exact LeO.refl _)
      | (with_reducible exact LeO.none _)
      | (with_reducible refine LeO.ite ?_ ?_)
      | (with_reducible refine LeO.bind ?_ (fun _ => ?_))
      | exact ih0 _ _ _ _ _ _ _ _ _
      | exact ih1 _ _ _ _ _ _ _ _ _ _ _ _ _ _
      | exact ih2 _ _ _ _ _ _ _ _ _ _ _ _ _
      | exact flight_Do.mono _ _ _ _ _
      | exact sawtoothlaw16_awake.mono _
      | exact LeO.none _
      | refine LeO.ite ?_ ?_
      | refine LeO.bind ?_ (fun _ => ?_)
    · intro y0 y1 y2 y3 y4 y5 y6 y7 y8 y9 y10 y11 y12 y13
      unfold sawtoothlaw16_FlightSums.j1
      repeat' first
      | (with_reducible exact ih0 _ _ _ _ _ _ _ _ _)
      | (with_reducible exact ih1 _ _ _ _ _ _ _ _ _ _ _ _ _ _)
      | (with_reducible exact ih2 _ _ _ _ _ _ _ _ _ _ _ _ _)
      | (with_reducible exact flight_Do.mono _ _ _ _ _)
      | (with_reducible exact sawtoothlaw16_awake.mono _)
      | (with_reducible exact LeO.refl _)
      | (with_reducible exact LeO.none _)
      | (with_reducible refine LeO.ite ?_ ?_)
      | (with_reducible refine LeO.bind ?_ (fun _ => ?_))
      | exact ih0 _ _ _ _ _ _ _ _ _
      | exact ih1 _ _ _ _ _ _ _ _ _ _ _ _ _ _
      | exact ih2 _ _ _ _ _ _ _ _ _ _ _ _ _
      | exact flight_Do.mono _ _ _ _ _
      | exact sawtoothlaw16_awake.mono _
      | exact LeO.none _
      | refine LeO.ite ?_ ?_
      | refine LeO.bind ?_ (fun _ => ?_)
    · intro y0 y1 y2 y3 y4 y5 y6 y7 y8 y9 y10 y11 y12
      unfold sawtoothlaw16_FlightSums.j2
      repeat' first
      | (with_reducible exact ih0 _ _ _ _ _ _ _ _ _)
      | (with_reducible exact ih1 _ _ _ _ _ _ _ _ _ _ _ _ _ _)
      | (with_reducible exact ih2 _ _ _ _ _ _ _ _ _ _ _ _ _)
      | (with_reducible exact flight_Do.mono _ _ _ _ _)
      | (with_reducible exact sawtoothlaw16_awake.mono _)
      | (with_reducible exact LeO.refl _)
      | (with_reducible exact LeO.none _)
      | (with_reducible refine LeO.ite ?_ ?_)
      | (with_reducible refine LeO.bind ?_ (fun _ => ?_))
      | exact ih0 _ _ _ _ _ _ _ _ _
      | exact ih1 _ _ _ _ _ _ _ _ _ _ _ _ _ _
      | exact ih2 _ _ _ _ _ _ _ _ _ _ _ _ _
      | exact flight_Do.mono _ _ _ _ _
      | exact sawtoothlaw16_awake.mono _
      | exact LeO.none _
      | refine LeO.ite ?_ ?_
      | refine LeO.bind ?_ (fun _ => ?_)
theorem sawtoothlaw16_FlightSums.mono : ∀ a0 k, LeO (sawtoothlaw16_FlightSums.f k a0) (sawtoothlaw16_FlightSums.f (k + 1) a0) := by
  intro a0 k
  obtain ⟨ih0, ih1, ih2⟩ := sawtoothlaw16_FlightSums.mono_l k
  unfold sawtoothlaw16_FlightSums.f
  repeat' first
      | (with_reducible exact ih0 _ _ _ _ _ _ _ _ _)
      | (with_reducible exact ih1 _ _ _ _ _ _ _ _ _ _ _ _ _ _)
      | (with_reducible exact ih2 _ _ _ _ _ _ _ _ _ _ _ _ _)
      | (with_reducible exact flight_Do.mono _ _ _ _ _)
      | (with_reducible exact sawtoothlaw16_awake.mono _)
      | (with_reducible exact LeO.refl _)
      | (with_reducible exact LeO.none _)
      | (with_reducible refine LeO.ite ?_ ?_)
      | (with_reducible refine LeO.bind ?_ (fun _ => ?_))
      | exact ih0 _ _ _ _ _ _ _ _ _
      | exact ih1 _ _ _ _ _ _ _ _ _ _ _ _ _ _
      | exact ih2 _ _ _ _ _ _ _ _ _ _ _ _ _
      | exact flight_Do.mono _ _ _ _ _
      | exact sawtoothlaw16_awake.mono _
      | exact LeO.none _
      | refine LeO.ite ?_ ?_
      | refine LeO.bind ?_ (fun _ => ?_)
def sawtoothlaw16_FlightSums.T9 : Bool × List (List Nat × List Nat) := (true, [([], []), ([], []), ([0, 1], [0, 1]), ([2], [2]), ([3], [3]), ([4], [4]), ([], []), ([], []), ([6, 7], [6, 7]), ([8], [8]), ([9], [9]), ([10], [10]), ([], []), ([], []), ([12, 13], [12, 13]), ([14], [14]), ([15], [15]), ([16], [16]), ([5, 11, 17], [5, 11, 17]), ([], []), ([19, 18, 0, 1, 2, 3, 4, 5, 6, 7, 8, 9, 10, 11, 12, 13, 14, 15, 16, 17, 18, 19], [18, 19])])
def sawtoothlaw16_FlightSums.B9 : List Nat := [0, 0, 3, 7, 15, 31, 0, 0, 192, 448, 960, 1984, 0, 0, 12288, 28672, 61440, 126976, 262143, 0, 1048575]
theorem sawtoothlaw16_FlightSums.tab9 : rtab .any (opsOf Try.f4 9) = sawtoothlaw16_FlightSums.T9 := by kernel_rfl
theorem sawtoothlaw16_FlightSums.bits9 : waitsOk sawtoothlaw16_FlightSums.T9.2 sawtoothlaw16_FlightSums.B9 = true := by kernel_rfl
def sawtoothlaw16_FlightSums.T16 : Bool × List (List Nat × List Nat) := (true, [([], []), ([0], [0]), ([], []), ([2], [2]), ([3], [3]), ([4], [4]), ([], []), ([6], [6]), ([5, 7], [5, 7]), ([1, 0, 1, 2, 3, 4, 5, 6, 7, 8], [1]), ([9, 8, 0, 1, 2, 3, 4, 5, 6, 7, 8], [8, 9])])
def sawtoothlaw16_FlightSums.B16 : List Nat := [0, 1, 0, 4, 12, 28, 0, 64, 252, 511, 1023]
theorem sawtoothlaw16_FlightSums.tab16 : rtab .any (opsOf Try.f4 16) = sawtoothlaw16_FlightSums.T16 := by kernel_rfl
theorem sawtoothlaw16_FlightSums.bits16 : waitsOk sawtoothlaw16_FlightSums.T16.2 sawtoothlaw16_FlightSums.B16 = true := by kernel_rfl
set_option maxHeartbeats 8000000 in
set_option maxRecDepth 100000 in
theorem sawtoothlaw16_FlightSums.calls (k : Nat) (A0 : Option Addr) (c0 : Nat) (l0 : List (S39)) (r : Bool) (w : World) (hr0 : Kd.C k39 w A0 l0.length l0) (hc0 : l0.length ≤ c0) (h : sawtoothlaw16_FlightSums.f k l0 = some r) (hr_ : r = true) :
    Calls Try.prog 4 #[.slice A0 l0.length c0] w fun e w' => e = .returned (.bool r) ∧ Below w.heap.size w w' := by
  have hu23 := Try.underlying23
  have hu38 := Try.underlying38
  have HR0 := Aside0.mk hr0
  have HC0 := Aside0.mk hc0
  clear hr0 hc0
  have HB := Aside0.mk (Below.refl w.heap.size w)
  have H : ((sawtoothlaw16_awake.f k).bind fun t199 => (if (l0.length : Int) > 100 then (if t199 = true then (some true) else (some false)) else (sawtoothlaw16_FlightSums.l0 k l0 t199 0 0 0 0 0 0 0))) = some r := h
  clear h
  replace H := Option.bind_eq_some_iff.mp H
  obtain ⟨t199, A20, H⟩ := H
  replace H : (if (l0.length : Int) > 100 then (if t199 = true then (some true) else (some false)) else (sawtoothlaw16_FlightSums.l0 k l0 t199 0 0 0 0 0 0 0)) = some r := H
  have A2 := Aside0.mk A20
  clear A20
  by_cases c3 : (l0.length : Int) > 100
  · rw [if_pos c3] at H
    have c3b0 : decide (100 < (l0.length : Int)) = true := decide_eq_true c3
    have c3b1 : decide (100 < l0.length) = true := decide_eq_true (by omega)
    clear c3
    by_cases c4 : t199 = true
    · subst c4
      have H1 : (some true) = some r := by rw [if_pos rfl] at H; exact H
      clear H
      have H := H1
      clear H1
      obtain rfl := Option.some.inj H
      go_enter Try.func4, Try.ntmps4
      go_wp2_with (first | ((with_reducible refine gate_callee (f := 9) rfl ?_); refine goesL_ (some 10) rfl rfl Try.func9 (by kernel_rfl) rfl #[] rfl (by (try simp only [List.map_toArray, List.map_cons, List.map_nil]); first | done | rfl | (simp only [List.length_drop, List.length_take]; rfl)) ?_; (with_reducible refine (sawtoothlaw16_awake.calls k  true _ A2.out).mono ?_); rintro e w5 ⟨rfl, hb⟩; refine ⟨_, rfl, ?_⟩; have n0_ := Aside0.mk (below_step (by repeat (first | (with_reducible first | exact HB.out | apply below_alloc | apply pw_below_drewN | apply below_drew1) | exact HB.out)) hb); clear HB; have HB := n0_; clear n0_; (try clear hb); (try clear hb2); (try clear hk); (try clear hi)))
      go_ret
      exact ⟨by first | rfl | (simp [errW_none, errW_some] <;> rfl) | (simp [*, errW_none, errW_some] <;> rfl), by repeat (first | (with_reducible first | exact HB.out | apply below_alloc | apply pw_below_drewN | apply below_drew1) | exact HB.out)⟩
    · replace c4 := Bool.eq_false_iff.mpr c4
      subst c4
      have H1 : (some false) = some r := by rw [if_neg (show ¬ (false = true) by decide)] at H; exact H
      clear H
      have H := H1
      clear H1
      exact absurd ((Option.some.inj H).trans hr_) (by simp)
  · rw [if_neg c3] at H
    have c3b0 : decide (100 < (l0.length : Int)) = false := decide_eq_false c3
    have c3b1 : decide (100 < l0.length) = false := decide_eq_false (by omega)
    clear c3
    have H' := Aside0.mk H
    clear H
    go_enter Try.func4, Try.ntmps4
    go_wp2_with (first | ((with_reducible refine gate_callee (f := 9) rfl ?_); refine goesL_ (some 10) rfl rfl Try.func9 (by kernel_rfl) rfl #[] rfl (by (try simp only [List.map_toArray, List.map_cons, List.map_nil]); first | done | rfl | (simp only [List.length_drop, List.length_take]; rfl)) ?_; (with_reducible refine (sawtoothlaw16_awake.calls k  t199 _ A2.out).mono ?_); rintro e w6 ⟨rfl, hb⟩; refine ⟨_, rfl, ?_⟩; have n0_ := Aside0.mk (below_step (by repeat (first | (with_reducible first | exact HB.out | apply below_alloc | apply pw_below_drewN | apply below_drew1) | exact HB.out)) hb); clear HB; have HB := n0_; clear n0_; (try clear hb); (try clear hb2); (try clear hk); (try clear hi)) | ((with_reducible refine gate_dst (N := 4) rfl ?_); refine box_event ?hg (N := 4) ?hd (cs := #[.int .i64 0, .int .i64 0, .int .i64 0]) (t := 23) ?hr ?_; (case hd => rfl); (case hg => rfl); (case hr => first | (go_simp; done) | (go_simp; rfl)); intro gb200 hg w7 hbox hb; have n0_ := Aside0.mk (below_step (by repeat (first | (with_reducible first | exact HB.out | apply below_alloc | apply pw_below_drewN | apply below_drew1) | exact HB.out)) hb); have n1_ := Aside0.mk (hbox); have n2_ := Aside0.mk ((by rw [hg]; exact (below_size (by repeat (first | (with_reducible first | exact HB.out | apply below_alloc | apply pw_below_drewN | apply below_drew1) | exact HB.out))) : w.heap.size ≤ gb200)); have n3_ := Aside0.mk ((by rw [hg]; exact (below_size (by repeat (first | (with_reducible first | exact HB.out | apply below_alloc | apply pw_below_drewN | apply below_drew1) | exact HB.out))) : w.heap.size ≤ gb200)); clear HB; have HB := n0_; have BK200 := n1_; have GW200 := n2_; have GE200 := n3_; clear n0_ n1_ n2_ n3_; clear hb hbox hg) | ((with_reducible refine gate_dst (N := 5) rfl ?_); refine box_event ?hg (N := 5) ?hd (cs := #[.int .i64 0, .int .i64 0, .int .i64 0]) (t := 38) ?hr ?_; (case hd => rfl); (case hg => rfl); (case hr => first | (go_simp; done) | (go_simp; rfl)); intro gb201 hg w8 hbox hb; have n0_ := Aside0.mk (blk_below (g := gb200) (o := .cells #[.int .i64 0, .int .i64 0, .int .i64 0] 23 (0, 0)) (by (with_reducible repeat (first | refine blk_drewN ?_ _ | refine blk_drew ?_ | refine blk_alloc ?_ _)); exact BK200.out) hb); have n1_ := Aside0.mk (below_step (by repeat (first | (with_reducible first | exact HB.out | apply below_alloc | apply pw_below_drewN | apply below_drew1 | refine below_set ?_ GE200.out) | exact HB.out)) hb); have n2_ := Aside0.mk (hbox); have n3_ := Aside0.mk ((by rw [hg]; exact (below_size (by repeat (first | (with_reducible first | exact HB.out | apply below_alloc | apply pw_below_drewN | apply below_drew1 | refine below_set ?_ GE200.out) | exact HB.out))) : w.heap.size ≤ gb201)); have n4_ := Aside0.mk ((by rw [hg]; exact (below_size (by repeat (first | (with_reducible first | exact HB.out | apply below_alloc | apply pw_below_drewN | apply below_drew1 | refine below_set ?_ GE200.out) | exact HB.out))) : w.heap.size ≤ gb201)); have n5_ := Aside0.mk ((by rw [hg]; exact Nat.ne_of_lt (blk_lt (g := gb200) (o := .cells #[.int .i64 0, .int .i64 0, .int .i64 0] 23 (0, 0)) (by (with_reducible repeat (first | refine blk_drewN ?_ _ | refine blk_drew ?_ | refine blk_alloc ?_ _)); exact BK200.out)) : gb200 ≠ gb201)); have n6_ := Aside0.mk ((by rw [hg]; exact Nat.ne_of_gt (blk_lt (g := gb200) (o := .cells #[.int .i64 0, .int .i64 0, .int .i64 0] 23 (0, 0)) (by (with_reducible repeat (first | refine blk_drewN ?_ _ | refine blk_drew ?_ | refine blk_alloc ?_ _)); exact BK200.out)) : gb201 ≠ gb200)); clear BK200; clear HB; have BK200 := n0_; have HB := n1_; have BK201 := n2_; have GW201 := n3_; have GE201 := n4_; have NB200_201 := n5_; have NB201_200 := n6_; clear n0_ n1_ n2_ n3_ n4_ n5_ n6_; clear hb hbox hg))
    go_loopg [6] k (fun kq v6 w' => ∃ (x6_1 : Int) (x201000_1 : Int) (x201001_1 : Int) (x201002_1 : Int) (x202000_1 : Int) (x202001_1 : Int) (x202002_1 : Int), v6 = .int .i64 x6_1 ∧ Aside0 (sawtoothlaw16_FlightSums.l0 kq l0 t199 x6_1 x201000_1 x201001_1 x201002_1 x202000_1 x202001_1 x202002_1 = some r) ∧ Aside0 (kq ≤ k) ∧ Aside0 (w'.heap[gb200]? = some (.cells #[.int .i64 x201000_1, .int .i64 x201001_1, .int .i64 x201002_1] 23 (0, 0))) ∧ Aside0 (w'.heap[gb201]? = some (.cells #[.int .i64 x202000_1, .int .i64 x202001_1, .int .i64 x202002_1] 38 (0, 0))) ∧ Aside0 (Below w.heap.size w w'))
    case atStart => exact ⟨(0), (0), (0), (0), (0), (0), (0), (by first | rfl | (simp; done) | (simp [*]; done)), H', ⟨Nat.le_refl _⟩, ⟨by (with_reducible repeat (first | refine blk_drewN ?_ _ | refine blk_drew ?_ | refine blk_alloc ?_ _)); exact BK200.out⟩, ⟨by (with_reducible repeat (first | refine blk_drewN ?_ _ | refine blk_drew ?_ | refine blk_alloc ?_ _)); exact BK201.out⟩, ⟨by repeat (first | (with_reducible first | exact HB.out | apply below_alloc | apply pw_below_drewN | apply below_drew1 | refine below_set ?_ GE200.out | refine below_set ?_ GE201.out) | exact HB.out)⟩⟩
    case round =>
      clear H'
      try clear p2
      try clear c3
      try clear c3b0
      try clear c3b1
      try clear c4
      obtain ⟨x6_1, x201000_1, x201001_1, x201002_1, x202000_1, x202001_1, x202002_1, rfl, HA, HK1, BK200, BK201, HB⟩ := hrel
      cases gk with
      | zero => exact absurd HA.out (by simp [sawtoothlaw16_FlightSums.l0])
      | succ k1 =>
        have H := HA.out
        clear HA
        simp only [sawtoothlaw16_FlightSums.l0] at H
        by_cases c9 : x6_1 < (l0.length : Int)
        · rw [if_pos c9] at H
          have c9b0 : decide (x6_1 < (l0.length : Int)) = true := decide_eq_true c9
          clear c9
          by_cases c10 : 0 ≤ x6_1
          · rw [if_pos c10] at H
            have c10b0 : decide (0 ≤ x6_1) = true := decide_eq_true c10
            clear c10
            obtain ⟨y206, hy206⟩ : ∃ y_ : List (S38), y_ = (([(⟨wrap64 ((rd_T39 l0 x6_1).f0), wrap64 ((rd_T39 l0 x6_1).f1), wrap64 ((rd_T39 l0 x6_1).f2)⟩ : S38)] : List (S38))) := ⟨_, rfl⟩
            replace H : ((flight_Do.f k1 x201000_1 x201001_1 x201002_1 y206).bind fun bt209 => (if (bt209.2.2.2.length : Int) = 1 then (if 0 < (bt209.2.2.2.length : Int) then (if (rd bt209.2.2.2 0) = 0 then (sawtoothlaw16_FlightSums.j1 k1 l0 t199 x6_1 bt209.2.2.2 false x202000_1 x202001_1 x202002_1 (wrap64 ((rd_T39 l0 x6_1).f0)) (wrap64 ((rd_T39 l0 x6_1).f1)) (wrap64 ((rd_T39 l0 x6_1).f2)) bt209.1 bt209.2.1 bt209.2.2.1) else (sawtoothlaw16_FlightSums.j1 k1 l0 t199 x6_1 bt209.2.2.2 (!(bt209.1 == x201000_1) || (!(bt209.2.1 == x201001_1) || (!(bt209.2.2.1 == x201002_1)))) x202000_1 x202001_1 x202002_1 (wrap64 ((rd_T39 l0 x6_1).f0)) (wrap64 ((rd_T39 l0 x6_1).f1)) (wrap64 ((rd_T39 l0 x6_1).f2)) bt209.1 bt209.2.1 bt209.2.2.1)) else (none)) else (sawtoothlaw16_FlightSums.j1 k1 l0 t199 x6_1 bt209.2.2.2 true x202000_1 x202001_1 x202002_1 (wrap64 ((rd_T39 l0 x6_1).f0)) (wrap64 ((rd_T39 l0 x6_1).f1)) (wrap64 ((rd_T39 l0 x6_1).f2)) bt209.1 bt209.2.1 bt209.2.2.1))) = some r := by first | (rw [hy206]; with_reducible exact H) | (have H2_ := (Option.bind_some _ _).symm.trans H; rw [hy206]; with_reducible exact H2_) | (have H2_ := (Option.bind_some _ _).symm.trans H; with_reducible exact H2_) | with_reducible exact H | (rw [hy206]; exact H) | exact H
            have Ny206 := Aside0.mk hy206
            clear hy206
            replace H := Option.bind_eq_some_iff.mp H
            obtain ⟨⟨t209, t210, t211, t212⟩, A110, H⟩ := H
            replace H : (if (t212.length : Int) = 1 then (if 0 < (t212.length : Int) then (if (rd t212 0) = 0 then (sawtoothlaw16_FlightSums.j1 k1 l0 t199 x6_1 t212 false x202000_1 x202001_1 x202002_1 (wrap64 ((rd_T39 l0 x6_1).f0)) (wrap64 ((rd_T39 l0 x6_1).f1)) (wrap64 ((rd_T39 l0 x6_1).f2)) t209 t210 t211) else (sawtoothlaw16_FlightSums.j1 k1 l0 t199 x6_1 t212 (!(t209 == x201000_1) || (!(t210 == x201001_1) || (!(t211 == x201002_1)))) x202000_1 x202001_1 x202002_1 (wrap64 ((rd_T39 l0 x6_1).f0)) (wrap64 ((rd_T39 l0 x6_1).f1)) (wrap64 ((rd_T39 l0 x6_1).f2)) t209 t210 t211)) else (none)) else (sawtoothlaw16_FlightSums.j1 k1 l0 t199 x6_1 t212 true x202000_1 x202001_1 x202002_1 (wrap64 ((rd_T39 l0 x6_1).f0)) (wrap64 ((rd_T39 l0 x6_1).f1)) (wrap64 ((rd_T39 l0 x6_1).f2)) t209 t210 t211)) = some r := H
            have A11 := Aside0.mk A110
            clear A110
            have HC12 := Aside0.mk H
            clear H
            try go_wp2
            have n0_ := Aside0.mk (blk_drew BK200.out)
            have n1_ := Aside0.mk (blk_drew BK201.out)
            have n2_ := Aside0.mk (below_drew1 HB.out)
            clear BK200
            clear BK201
            clear HB
            have BK200 := n0_
            have BK201 := n1_
            have HB := n2_
            clear n0_ n1_ n2_
            have p202 : 0 ≤ (x6_1 : Int) := of_decide_eq_true (by first | (with_reducible assumption) | assumption)
            have q202 : x6_1 < (l0.length : Int) := of_decide_eq_true (by first | (with_reducible assumption) | assumption)
            obtain ⟨ad202, e202, hx202_0, hx202_1, hx202_2⟩ := at_T39 HR0.out x6_1 p202 q202
            have hw202_2 := hx202_2
            have hw202_1 := hx202_1
            have hw202_0 := hx202_0
            cases e202
            replace hx202_0 := (HB.out.cell (World.block_lt_of_cell? w _ hx202_0)).trans hx202_0
            replace hx202_1 := (HB.out.cell (World.block_lt_of_cell? w _ hx202_1)).trans hx202_1
            replace hx202_2 := (HB.out.cell (World.block_lt_of_cell? w _ hx202_2)).trans hx202_2
            replace p202 := eq_true p202
            replace q202 := eq_true q202
            have p203 : 0 ≤ (x6_1 : Int) := of_decide_eq_true (by first | (with_reducible assumption) | assumption)
            have q203 : x6_1 < (l0.length : Int) := of_decide_eq_true (by first | (with_reducible assumption) | assumption)
            obtain ⟨ad203, e203, hx203_0, hx203_1, hx203_2⟩ := at_T39 HR0.out x6_1 p203 q203
            have hw203_2 := hx203_2
            have hw203_1 := hx203_1
            have hw203_0 := hx203_0
            obtain rfl : ad202 = ad203 := (by injection e203)
            replace hx203_0 := (HB.out.cell (World.block_lt_of_cell? w _ hx203_0)).trans hx203_0
            replace hx203_1 := (HB.out.cell (World.block_lt_of_cell? w _ hx203_1)).trans hx203_1
            replace hx203_2 := (HB.out.cell (World.block_lt_of_cell? w _ hx203_2)).trans hx203_2
            replace p203 := eq_true p203
            replace q203 := eq_true q203
            have p204 : 0 ≤ (x6_1 : Int) := of_decide_eq_true (by first | (with_reducible assumption) | assumption)
            have q204 : x6_1 < (l0.length : Int) := of_decide_eq_true (by first | (with_reducible assumption) | assumption)
            obtain ⟨ad204, e204, hx204_0, hx204_1, hx204_2⟩ := at_T39 HR0.out x6_1 p204 q204
            have hw204_2 := hx204_2
            have hw204_1 := hx204_1
            have hw204_0 := hx204_0
            obtain rfl : ad202 = ad204 := (by injection e204)
            replace hx204_0 := (HB.out.cell (World.block_lt_of_cell? w _ hx204_0)).trans hx204_0
            replace hx204_1 := (HB.out.cell (World.block_lt_of_cell? w _ hx204_1)).trans hx204_1
            replace hx204_2 := (HB.out.cell (World.block_lt_of_cell? w _ hx204_2)).trans hx204_2
            replace p204 := eq_true p204
            replace q204 := eq_true q204
            refine start_ (n := 21) (S := fun w' => w'.cell? (ad202.add ((x6_1).toNat * 3)) = some (.int .i32 ((rd_T39 l0 x6_1).f0)) ∧ w'.cell? ⟨(ad202.add ((x6_1).toNat * 3)).block, (ad202.add ((x6_1).toNat * 3)).off + 1, none⟩ = some (.int .i32 ((rd_T39 l0 x6_1).f1)) ∧ w'.cell? ⟨(ad202.add ((x6_1).toNat * 3)).block, (ad202.add ((x6_1).toNat * 3)).off + 2, none⟩ = some (.int .i32 ((rd_T39 l0 x6_1).f2)) ∧ w'.cell? (ad202.add ((x6_1).toNat * 3)) = some (.int .i32 ((rd_T39 l0 x6_1).f0)) ∧ w'.cell? ⟨(ad202.add ((x6_1).toNat * 3)).block, (ad202.add ((x6_1).toNat * 3)).off + 1, none⟩ = some (.int .i32 ((rd_T39 l0 x6_1).f1)) ∧ w'.cell? ⟨(ad202.add ((x6_1).toNat * 3)).block, (ad202.add ((x6_1).toNat * 3)).off + 2, none⟩ = some (.int .i32 ((rd_T39 l0 x6_1).f2)) ∧ w'.cell? (ad202.add ((x6_1).toNat * 3)) = some (.int .i32 ((rd_T39 l0 x6_1).f0)) ∧ w'.cell? ⟨(ad202.add ((x6_1).toNat * 3)).block, (ad202.add ((x6_1).toNat * 3)).off + 1, none⟩ = some (.int .i32 ((rd_T39 l0 x6_1).f1)) ∧ w'.cell? ⟨(ad202.add ((x6_1).toNat * 3)).block, (ad202.add ((x6_1).toNat * 3)).off + 2, none⟩ = some (.int .i32 ((rd_T39 l0 x6_1).f2))) (ds := []) #[false, false, false, false, false, false, false, false, false, false, false, false, false, false, false, false, false, false, false, false, false] (by kernel_rfl) rfl rfl ⟨((HB.out.cell (World.block_lt_of_cell? w _ hw202_0)).trans hw202_0), ((HB.out.cell (World.block_lt_of_cell? w _ hw202_1)).trans hw202_1), ((HB.out.cell (World.block_lt_of_cell? w _ hw202_2)).trans hw202_2), ((HB.out.cell (World.block_lt_of_cell? w _ hw203_0)).trans hw203_0), ((HB.out.cell (World.block_lt_of_cell? w _ hw203_1)).trans hw203_1), ((HB.out.cell (World.block_lt_of_cell? w _ hw203_2)).trans hw203_2), ((HB.out.cell (World.block_lt_of_cell? w _ hw204_0)).trans hw204_0), ((HB.out.cell (World.block_lt_of_cell? w _ hw204_1)).trans hw204_1), ((HB.out.cell (World.block_lt_of_cell? w _ hw204_2)).trans hw204_2)⟩ (fun hHeld => ?_); refine with_tabW sawtoothlaw16_FlightSums.tab9 sawtoothlaw16_FlightSums.bits9 (fun HT_ HW_ => ?_)
            generalize wr.drew = w13 at BK200 BK201 HB hx202_0 hx202_1 hx202_2 hx203_0 hx203_1 hx203_2 hx204_0 hx204_1 hx204_2 hHeld ⊢
            refine pure_ (i := 0) (N := some 21) (v := ?_) (a' := ?_) #[true, false, false, false, false, false, false, false, false, false, false, false, false, false, false, false, false, false, false, false, false] rfl rfl (any_of HT_.out (by kernel_rfl)) (fun _ _ _ h => h) (Or.inl ⟨by rfl, ?_⟩) ?_ ?_
            rotate_left
            · intro w'
              go_simp
              with_reducible rfl
            rotate_left
            · simp only [Act.put, List.setIfInBounds_toArray, List.set_cons_zero, List.set_cons_succ, i64_w, i32_w]
              rfl
            refine pure_ (i := 1) (N := some 22) (v := ?_) (a' := ?_) #[true, true, false, false, false, false, false, false, false, false, false, false, false, false, false, false, false, false, false, false, false] rfl rfl (any_of HT_.out (by kernel_rfl)) (fun _ _ _ h => h) (Or.inl ⟨by rfl, ?_⟩) ?_ ?_
            rotate_left
            · intro w'
              go_simp
              with_reducible rfl
            rotate_left
            · simp only [Act.put, List.setIfInBounds_toArray, List.set_cons_zero, List.set_cons_succ, i64_w, i32_w]
              rfl
            refine pure_ (i := 2) (N := some 23) (v := ?_) (a' := ?_) #[true, true, true, false, false, false, false, false, false, false, false, false, false, false, false, false, false, false, false, false, false] rfl rfl (any_of HT_.out (by kernel_rfl)) (fun _ _ _ h => h) (Or.inl ⟨by rfl, ?_⟩) ?_ ?_
            rotate_left
            · intro w'
              go_simp
              with_reducible rfl
            rotate_left
            · simp only [Act.put, List.setIfInBounds_toArray, List.set_cons_zero, List.set_cons_succ, i64_w, i32_w]
              rfl
            refine pure_ (i := 3) (N := some 24) (v := ?_) (a' := ?_) #[true, true, true, true, false, false, false, false, false, false, false, false, false, false, false, false, false, false, false, false, false] rfl rfl (any_of HT_.out (by kernel_rfl)) (fun _ _ _ h => h) (Or.inl ⟨by rfl, ?_⟩) ?_ ?_
            rotate_left
            · intro w'
              go_simp
              with_reducible rfl
            rotate_left
            · simp only [Act.put, List.setIfInBounds_toArray, List.set_cons_zero, List.set_cons_succ, i64_w, i32_w]
              rfl
            refine pure_ (i := 6) (N := some 27) (v := ?_) (a' := ?_) #[true, true, true, true, false, false, true, false, false, false, false, false, false, false, false, false, false, false, false, false, false] rfl rfl (any_of HT_.out (by kernel_rfl)) (fun _ _ _ h => h) (Or.inl ⟨by rfl, ?_⟩) ?_ ?_
            rotate_left
            · intro w'
              go_simp
              with_reducible rfl
            rotate_left
            · simp only [Act.put, List.setIfInBounds_toArray, List.set_cons_zero, List.set_cons_succ, i64_w, i32_w]
              rfl
            refine pure_ (i := 7) (N := some 28) (v := ?_) (a' := ?_) #[true, true, true, true, false, false, true, true, false, false, false, false, false, false, false, false, false, false, false, false, false] rfl rfl (any_of HT_.out (by kernel_rfl)) (fun _ _ _ h => h) (Or.inl ⟨by rfl, ?_⟩) ?_ ?_
            rotate_left
            · intro w'
              go_simp
              with_reducible rfl
            rotate_left
            · simp only [Act.put, List.setIfInBounds_toArray, List.set_cons_zero, List.set_cons_succ, i64_w, i32_w]
              rfl
            refine pure_ (i := 8) (N := some 29) (v := ?_) (a' := ?_) #[true, true, true, true, false, false, true, true, true, false, false, false, false, false, false, false, false, false, false, false, false] rfl rfl (any_of HT_.out (by kernel_rfl)) (fun _ _ _ h => h) (Or.inl ⟨by rfl, ?_⟩) ?_ ?_
            rotate_left
            · intro w'
              go_simp
              with_reducible rfl
            rotate_left
            · simp only [Act.put, List.setIfInBounds_toArray, List.set_cons_zero, List.set_cons_succ, i64_w, i32_w]
              rfl
            refine pure_ (i := 9) (N := some 30) (v := ?_) (a' := ?_) #[true, true, true, true, false, false, true, true, true, true, false, false, false, false, false, false, false, false, false, false, false] rfl rfl (any_of HT_.out (by kernel_rfl)) (fun _ _ _ h => h) (Or.inl ⟨by rfl, ?_⟩) ?_ ?_
            rotate_left
            · intro w'
              go_simp
              with_reducible rfl
            rotate_left
            · simp only [Act.put, List.setIfInBounds_toArray, List.set_cons_zero, List.set_cons_succ, i64_w, i32_w]
              rfl
            refine pure_ (i := 12) (N := some 33) (v := ?_) (a' := ?_) #[true, true, true, true, false, false, true, true, true, true, false, false, true, false, false, false, false, false, false, false, false] rfl rfl (any_of HT_.out (by kernel_rfl)) (fun _ _ _ h => h) (Or.inl ⟨by rfl, ?_⟩) ?_ ?_
            rotate_left
            · intro w'
              go_simp
              with_reducible rfl
            rotate_left
            · simp only [Act.put, List.setIfInBounds_toArray, List.set_cons_zero, List.set_cons_succ, i64_w, i32_w]
              rfl
            refine pure_ (i := 13) (N := some 34) (v := ?_) (a' := ?_) #[true, true, true, true, false, false, true, true, true, true, false, false, true, true, false, false, false, false, false, false, false] rfl rfl (any_of HT_.out (by kernel_rfl)) (fun _ _ _ h => h) (Or.inl ⟨by rfl, ?_⟩) ?_ ?_
            rotate_left
            · intro w'
              go_simp
              with_reducible rfl
            rotate_left
            · simp only [Act.put, List.setIfInBounds_toArray, List.set_cons_zero, List.set_cons_succ, i64_w, i32_w]
              rfl
            refine pure_ (i := 14) (N := some 35) (v := ?_) (a' := ?_) #[true, true, true, true, false, false, true, true, true, true, false, false, true, true, true, false, false, false, false, false, false] rfl rfl (any_of HT_.out (by kernel_rfl)) (fun _ _ _ h => h) (Or.inl ⟨by rfl, ?_⟩) ?_ ?_
            rotate_left
            · intro w'
              go_simp
              with_reducible rfl
            rotate_left
            · simp only [Act.put, List.setIfInBounds_toArray, List.set_cons_zero, List.set_cons_succ, i64_w, i32_w]
              rfl
            refine pure_ (i := 15) (N := some 36) (v := ?_) (a' := ?_) #[true, true, true, true, false, false, true, true, true, true, false, false, true, true, true, true, false, false, false, false, false] rfl rfl (any_of HT_.out (by kernel_rfl)) (fun _ _ _ h => h) (Or.inl ⟨by rfl, ?_⟩) ?_ ?_
            rotate_left
            · intro w'
              go_simp
              with_reducible rfl
            rotate_left
            · simp only [Act.put, List.setIfInBounds_toArray, List.set_cons_zero, List.set_cons_succ, i64_w, i32_w]
              rfl
            refine take_ (i := 4) (N := some 25) (v := ?_) (a' := ?_) #[true, true, true, true, true, false, true, true, true, true, false, false, true, true, true, true, false, false, false, false, false] rfl rfl (take_ofW HT_.out HW_.out (by kernel_rfl)) (fun _ _ _ h => h) (Or.inl ⟨by rfl, ?_⟩) hHeld ?_ ?_
            rotate_left
            · rintro w' ⟨s0, s1, s2, s3, s4, s5, s6, s7, s8⟩
              go_simp
              with_reducible rfl
            rotate_left
            · simp only [Act.put, List.setIfInBounds_toArray, List.set_cons_zero, List.set_cons_succ, i64_w, i32_w]
              rfl
            refine pure_ (i := 5) (N := some 26) (v := ?_) (a' := ?_) #[true, true, true, true, true, true, true, true, true, true, false, false, true, true, true, true, false, false, false, false, false] rfl rfl (any_of HT_.out (by kernel_rfl)) (fun _ _ _ h => h) (Or.inl ⟨by rfl, ?_⟩) ?_ ?_
            rotate_left
            · intro w'
              go_simp
              with_reducible rfl
            rotate_left
            · simp only [Act.put, List.setIfInBounds_toArray, List.set_cons_zero, List.set_cons_succ, i64_w, i32_w]
              rfl
            refine take_ (i := 10) (N := some 31) (v := ?_) (a' := ?_) #[true, true, true, true, true, true, true, true, true, true, true, false, true, true, true, true, false, false, false, false, false] rfl rfl (take_ofW HT_.out HW_.out (by kernel_rfl)) (fun _ _ _ h => h) (Or.inl ⟨by rfl, ?_⟩) hHeld ?_ ?_
            rotate_left
            · rintro w' ⟨s0, s1, s2, s3, s4, s5, s6, s7, s8⟩
              go_simp
              with_reducible rfl
            rotate_left
            · simp only [Act.put, List.setIfInBounds_toArray, List.set_cons_zero, List.set_cons_succ, i64_w, i32_w]
              rfl
            refine pure_ (i := 11) (N := some 32) (v := ?_) (a' := ?_) #[true, true, true, true, true, true, true, true, true, true, true, true, true, true, true, true, false, false, false, false, false] rfl rfl (any_of HT_.out (by kernel_rfl)) (fun _ _ _ h => h) (Or.inl ⟨by rfl, ?_⟩) ?_ ?_
            rotate_left
            · intro w'
              go_simp
              with_reducible rfl
            rotate_left
            · simp only [Act.put, List.setIfInBounds_toArray, List.set_cons_zero, List.set_cons_succ, i64_w, i32_w]
              rfl
            refine take_ (i := 16) (N := some 37) (v := ?_) (a' := ?_) #[true, true, true, true, true, true, true, true, true, true, true, true, true, true, true, true, true, false, false, false, false] rfl rfl (take_ofW HT_.out HW_.out (by kernel_rfl)) (fun _ _ _ h => h) (Or.inl ⟨by rfl, ?_⟩) hHeld ?_ ?_
            rotate_left
            · rintro w' ⟨s0, s1, s2, s3, s4, s5, s6, s7, s8⟩
              go_simp
              with_reducible rfl
            rotate_left
            · simp only [Act.put, List.setIfInBounds_toArray, List.set_cons_zero, List.set_cons_succ, i64_w, i32_w]
              rfl
            refine pure_ (i := 17) (N := some 38) (v := ?_) (a' := ?_) #[true, true, true, true, true, true, true, true, true, true, true, true, true, true, true, true, true, true, false, false, false] rfl rfl (any_of HT_.out (by kernel_rfl)) (fun _ _ _ h => h) (Or.inl ⟨by rfl, ?_⟩) ?_ ?_
            rotate_left
            · intro w'
              go_simp
              with_reducible rfl
            rotate_left
            · simp only [Act.put, List.setIfInBounds_toArray, List.set_cons_zero, List.set_cons_succ, i64_w, i32_w]
              rfl
            refine pure_ (i := 18) (N := some 39) (v := ?_) (a' := ?_) #[true, true, true, true, true, true, true, true, true, true, true, true, true, true, true, true, true, true, true, false, false] rfl rfl (any_of HT_.out (by kernel_rfl)) (fun _ _ _ h => h) (Or.inl ⟨by rfl, ?_⟩) ?_ ?_
            rotate_left
            · intro w'
              go_simp
              with_reducible rfl
            rotate_left
            · simp only [Act.put, List.setIfInBounds_toArray, List.set_cons_zero, List.set_cons_succ, i64_w, i32_w]
              rfl
            refine one_ (i := 19) (N := some 7) #[true, true, true, true, true, true, true, true, true, true, true, true, true, true, true, true, true, true, true, true, false] rfl rfl (one_of HT_.out (by kernel_rfl)) (by decide) (fun K hK => ?_)
            refine box_step ?hg (N := 7) ?hd (cs := #[.int .i64 0, .int .i64 0, .int .i64 0]) (t := 38) ?hr ?_; (case hd => rfl); (case hg => rfl); (case hr => first | (go_simp; done) | (go_simp; rfl))
            intro gb205 hg w14 hbox hb
            have n0_ := Aside0.mk (blk_below (g := gb200) (o := .cells #[.int .i64 x201000_1, .int .i64 x201001_1, .int .i64 x201002_1] 23 (0, 0)) (by (with_reducible repeat (first | refine blk_drewN ?_ _ | refine blk_drew ?_ | refine blk_alloc ?_ _)); exact BK200.out) hb)
            have n1_ := Aside0.mk (blk_below (g := gb201) (o := .cells #[.int .i64 x202000_1, .int .i64 x202001_1, .int .i64 x202002_1] 38 (0, 0)) (by (with_reducible repeat (first | refine blk_drewN ?_ _ | refine blk_drew ?_ | refine blk_alloc ?_ _)); exact BK201.out) hb)
            have n2_ := Aside0.mk (below_step (by repeat (first | (with_reducible first | exact HB.out | apply below_alloc | apply pw_below_drewN | apply below_drew1 | refine below_set ?_ GE200.out | refine below_set ?_ GE201.out) | exact HB.out)) hb)
            have n3_ := Aside0.mk (hbox)
            have n4_ := Aside0.mk ((by rw [hg]; exact (below_size (by repeat (first | (with_reducible first | exact HB.out | apply below_alloc | apply pw_below_drewN | apply below_drew1 | refine below_set ?_ GE200.out | refine below_set ?_ GE201.out) | exact HB.out))) : w.heap.size ≤ gb205))
            have n5_ := Aside0.mk ((by rw [hg]; exact (below_size (by repeat (first | (with_reducible first | exact HB.out | apply below_alloc | apply pw_below_drewN | apply below_drew1 | refine below_set ?_ GE200.out | refine below_set ?_ GE201.out) | exact HB.out))) : w.heap.size ≤ gb205))
            have n6_ := Aside0.mk ((by rw [hg]; exact Nat.ne_of_lt (blk_lt (g := gb200) (o := .cells #[.int .i64 x201000_1, .int .i64 x201001_1, .int .i64 x201002_1] 23 (0, 0)) (by (with_reducible repeat (first | refine blk_drewN ?_ _ | refine blk_drew ?_ | refine blk_alloc ?_ _)); exact BK200.out)) : gb200 ≠ gb205))
            have n7_ := Aside0.mk ((by rw [hg]; exact Nat.ne_of_gt (blk_lt (g := gb200) (o := .cells #[.int .i64 x201000_1, .int .i64 x201001_1, .int .i64 x201002_1] 23 (0, 0)) (by (with_reducible repeat (first | refine blk_drewN ?_ _ | refine blk_drew ?_ | refine blk_alloc ?_ _)); exact BK200.out)) : gb205 ≠ gb200))
            have n8_ := Aside0.mk ((by rw [hg]; exact Nat.ne_of_lt (blk_lt (g := gb201) (o := .cells #[.int .i64 x202000_1, .int .i64 x202001_1, .int .i64 x202002_1] 38 (0, 0)) (by (with_reducible repeat (first | refine blk_drewN ?_ _ | refine blk_drew ?_ | refine blk_alloc ?_ _)); exact BK201.out)) : gb201 ≠ gb205))
            have n9_ := Aside0.mk ((by rw [hg]; exact Nat.ne_of_gt (blk_lt (g := gb201) (o := .cells #[.int .i64 x202000_1, .int .i64 x202001_1, .int .i64 x202002_1] 38 (0, 0)) (by (with_reducible repeat (first | refine blk_drewN ?_ _ | refine blk_drew ?_ | refine blk_alloc ?_ _)); exact BK201.out)) : gb205 ≠ gb201))
            clear BK200
            clear BK201
            clear HB
            have BK200 := n0_
            have BK201 := n1_
            have HB := n2_
            have BK205 := n3_
            have GW205 := n4_
            have GE205 := n5_
            have NB200_205 := n6_
            have NB205_200 := n7_
            have NB201_205 := n8_
            have NB205_201 := n9_
            clear n0_ n1_ n2_ n3_ n4_ n5_ n6_ n7_ n8_ n9_
            clear hb hbox hg
            refine hK.out _ _ ⟨((HB.out.cell (World.block_lt_of_cell? w _ hw202_0)).trans hw202_0), ((HB.out.cell (World.block_lt_of_cell? w _ hw202_1)).trans hw202_1), ((HB.out.cell (World.block_lt_of_cell? w _ hw202_2)).trans hw202_2), ((HB.out.cell (World.block_lt_of_cell? w _ hw203_0)).trans hw203_0), ((HB.out.cell (World.block_lt_of_cell? w _ hw203_1)).trans hw203_1), ((HB.out.cell (World.block_lt_of_cell? w _ hw203_2)).trans hw203_2), ((HB.out.cell (World.block_lt_of_cell? w _ hw204_0)).trans hw204_0), ((HB.out.cell (World.block_lt_of_cell? w _ hw204_1)).trans hw204_1), ((HB.out.cell (World.block_lt_of_cell? w _ hw204_2)).trans hw204_2)⟩ (fun hHeld => ?_)
            clear hK K
            refine norm_ (a' := ?_) ?_ ?_
            rotate_left
            · show Act.put _ (some 7) _ = _
              simp only [Act.put, List.setIfInBounds_toArray, List.set_cons_zero, List.set_cons_succ, i64_w, i32_w]
              rfl
            refine one_ (i := 20) (N := none) #[true, true, true, true, true, true, true, true, true, true, true, true, true, true, true, true, true, true, true, true, true] rfl rfl (one_of HT_.out (by kernel_rfl)) (by decide) (fun K hK => ?_)
            have hs15 : w14.cell? ⟨gb205, 0, none⟩ = some (.int .i64 0) := (blk_cell BK205.out 0).trans rfl
            have hfs15 := blk_frozen BK205.out 0
            have hns15_0 := NB200_205.out
            have hns15_1 := NB201_205.out
            have hms15_0 := NB205_200.out
            have hms15_1 := NB205_201.out
            have hs16 : w14.cell? ⟨gb205, 1, none⟩ = some (.int .i64 0) := (blk_cell BK205.out 1).trans rfl
            have hfs16 := blk_frozen BK205.out 1
            have hns16_0 := NB200_205.out
            have hns16_1 := NB201_205.out
            have hms16_0 := NB205_200.out
            have hms16_1 := NB205_201.out
            have hs17 : w14.cell? ⟨gb205, 2, none⟩ = some (.int .i64 0) := (blk_cell BK205.out 2).trans rfl
            have hfs17 := blk_frozen BK205.out 2
            have hns17_0 := NB200_205.out
            have hns17_1 := NB201_205.out
            have hms17_0 := NB205_200.out
            have hms17_1 := NB205_201.out
            refine skip_ (w1 := ?_) (by rfl) rfl ?_ ?_
            rotate_left
            · go_simp
              rfl
            refine hK.out _ _ ⟨((cell_far (p := ⟨gb205, _, none⟩) (by first | exact Nat.ne_of_lt (Nat.lt_of_lt_of_le (by have := World.block_lt_of_cell? _ _ hw202_0; first | rwa [add_block] at this | exact this) GW205.out) | (rw [add_block]; exact Nat.ne_of_lt (Nat.lt_of_lt_of_le (by have := World.block_lt_of_cell? _ _ hw202_0; first | rwa [add_block] at this | exact this) GW205.out)) | (show (Addr.add _ _).block ≠ _; rw [add_block]; exact Nat.ne_of_lt (Nat.lt_of_lt_of_le (by have := World.block_lt_of_cell? _ _ hw202_0; first | rwa [add_block] at this | exact this) GW205.out)) | (dsimp only; exact Nat.ne_of_lt (Nat.lt_of_lt_of_le (by have := World.block_lt_of_cell? _ _ hw202_0; first | rwa [add_block] at this | exact this) GW205.out))) _).trans (((cell_far (p := ⟨gb205, _, none⟩) (by first | exact Nat.ne_of_lt (Nat.lt_of_lt_of_le (by have := World.block_lt_of_cell? _ _ hw202_0; first | rwa [add_block] at this | exact this) GW205.out) | (rw [add_block]; exact Nat.ne_of_lt (Nat.lt_of_lt_of_le (by have := World.block_lt_of_cell? _ _ hw202_0; first | rwa [add_block] at this | exact this) GW205.out)) | (show (Addr.add _ _).block ≠ _; rw [add_block]; exact Nat.ne_of_lt (Nat.lt_of_lt_of_le (by have := World.block_lt_of_cell? _ _ hw202_0; first | rwa [add_block] at this | exact this) GW205.out)) | (dsimp only; exact Nat.ne_of_lt (Nat.lt_of_lt_of_le (by have := World.block_lt_of_cell? _ _ hw202_0; first | rwa [add_block] at this | exact this) GW205.out))) _).trans (((cell_far (p := ⟨gb205, _, none⟩) (by first | exact Nat.ne_of_lt (Nat.lt_of_lt_of_le (by have := World.block_lt_of_cell? _ _ hw202_0; first | rwa [add_block] at this | exact this) GW205.out) | (rw [add_block]; exact Nat.ne_of_lt (Nat.lt_of_lt_of_le (by have := World.block_lt_of_cell? _ _ hw202_0; first | rwa [add_block] at this | exact this) GW205.out)) | (show (Addr.add _ _).block ≠ _; rw [add_block]; exact Nat.ne_of_lt (Nat.lt_of_lt_of_le (by have := World.block_lt_of_cell? _ _ hw202_0; first | rwa [add_block] at this | exact this) GW205.out)) | (dsimp only; exact Nat.ne_of_lt (Nat.lt_of_lt_of_le (by have := World.block_lt_of_cell? _ _ hw202_0; first | rwa [add_block] at this | exact this) GW205.out))) _).trans (hHeld.1)))))), ((cell_far (p := ⟨gb205, _, none⟩) (by first | exact Nat.ne_of_lt (Nat.lt_of_lt_of_le (by have := World.block_lt_of_cell? _ _ hw202_1; first | rwa [add_block] at this | exact this) GW205.out) | (rw [add_block]; exact Nat.ne_of_lt (Nat.lt_of_lt_of_le (by have := World.block_lt_of_cell? _ _ hw202_1; first | rwa [add_block] at this | exact this) GW205.out)) | (show (Addr.add _ _).block ≠ _; rw [add_block]; exact Nat.ne_of_lt (Nat.lt_of_lt_of_le (by have := World.block_lt_of_cell? _ _ hw202_1; first | rwa [add_block] at this | exact this) GW205.out)) | (dsimp only; exact Nat.ne_of_lt (Nat.lt_of_lt_of_le (by have := World.block_lt_of_cell? _ _ hw202_1; first | rwa [add_block] at this | exact this) GW205.out))) _).trans (((cell_far (p := ⟨gb205, _, none⟩) (by first | exact Nat.ne_of_lt (Nat.lt_of_lt_of_le (by have := World.block_lt_of_cell? _ _ hw202_1; first | rwa [add_block] at this | exact this) GW205.out) | (rw [add_block]; exact Nat.ne_of_lt (Nat.lt_of_lt_of_le (by have := World.block_lt_of_cell? _ _ hw202_1; first | rwa [add_block] at this | exact this) GW205.out)) | (show (Addr.add _ _).block ≠ _; rw [add_block]; exact Nat.ne_of_lt (Nat.lt_of_lt_of_le (by have := World.block_lt_of_cell? _ _ hw202_1; first | rwa [add_block] at this | exact this) GW205.out)) | (dsimp only; exact Nat.ne_of_lt (Nat.lt_of_lt_of_le (by have := World.block_lt_of_cell? _ _ hw202_1; first | rwa [add_block] at this | exact this) GW205.out))) _).trans (((cell_far (p := ⟨gb205, _, none⟩) (by first | exact Nat.ne_of_lt (Nat.lt_of_lt_of_le (by have := World.block_lt_of_cell? _ _ hw202_1; first | rwa [add_block] at this | exact this) GW205.out) | (rw [add_block]; exact Nat.ne_of_lt (Nat.lt_of_lt_of_le (by have := World.block_lt_of_cell? _ _ hw202_1; first | rwa [add_block] at this | exact this) GW205.out)) | (show (Addr.add _ _).block ≠ _; rw [add_block]; exact Nat.ne_of_lt (Nat.lt_of_lt_of_le (by have := World.block_lt_of_cell? _ _ hw202_1; first | rwa [add_block] at this | exact this) GW205.out)) | (dsimp only; exact Nat.ne_of_lt (Nat.lt_of_lt_of_le (by have := World.block_lt_of_cell? _ _ hw202_1; first | rwa [add_block] at this | exact this) GW205.out))) _).trans (hHeld.2.1)))))), ((cell_far (p := ⟨gb205, _, none⟩) (by first | exact Nat.ne_of_lt (Nat.lt_of_lt_of_le (by have := World.block_lt_of_cell? _ _ hw202_2; first | rwa [add_block] at this | exact this) GW205.out) | (rw [add_block]; exact Nat.ne_of_lt (Nat.lt_of_lt_of_le (by have := World.block_lt_of_cell? _ _ hw202_2; first | rwa [add_block] at this | exact this) GW205.out)) | (show (Addr.add _ _).block ≠ _; rw [add_block]; exact Nat.ne_of_lt (Nat.lt_of_lt_of_le (by have := World.block_lt_of_cell? _ _ hw202_2; first | rwa [add_block] at this | exact this) GW205.out)) | (dsimp only; exact Nat.ne_of_lt (Nat.lt_of_lt_of_le (by have := World.block_lt_of_cell? _ _ hw202_2; first | rwa [add_block] at this | exact this) GW205.out))) _).trans (((cell_far (p := ⟨gb205, _, none⟩) (by first | exact Nat.ne_of_lt (Nat.lt_of_lt_of_le (by have := World.block_lt_of_cell? _ _ hw202_2; first | rwa [add_block] at this | exact this) GW205.out) | (rw [add_block]; exact Nat.ne_of_lt (Nat.lt_of_lt_of_le (by have := World.block_lt_of_cell? _ _ hw202_2; first | rwa [add_block] at this | exact this) GW205.out)) | (show (Addr.add _ _).block ≠ _; rw [add_block]; exact Nat.ne_of_lt (Nat.lt_of_lt_of_le (by have := World.block_lt_of_cell? _ _ hw202_2; first | rwa [add_block] at this | exact this) GW205.out)) | (dsimp only; exact Nat.ne_of_lt (Nat.lt_of_lt_of_le (by have := World.block_lt_of_cell? _ _ hw202_2; first | rwa [add_block] at this | exact this) GW205.out))) _).trans (((cell_far (p := ⟨gb205, _, none⟩) (by first | exact Nat.ne_of_lt (Nat.lt_of_lt_of_le (by have := World.block_lt_of_cell? _ _ hw202_2; first | rwa [add_block] at this | exact this) GW205.out) | (rw [add_block]; exact Nat.ne_of_lt (Nat.lt_of_lt_of_le (by have := World.block_lt_of_cell? _ _ hw202_2; first | rwa [add_block] at this | exact this) GW205.out)) | (show (Addr.add _ _).block ≠ _; rw [add_block]; exact Nat.ne_of_lt (Nat.lt_of_lt_of_le (by have := World.block_lt_of_cell? _ _ hw202_2; first | rwa [add_block] at this | exact this) GW205.out)) | (dsimp only; exact Nat.ne_of_lt (Nat.lt_of_lt_of_le (by have := World.block_lt_of_cell? _ _ hw202_2; first | rwa [add_block] at this | exact this) GW205.out))) _).trans (hHeld.2.2.1)))))), ((cell_far (p := ⟨gb205, _, none⟩) (by first | exact Nat.ne_of_lt (Nat.lt_of_lt_of_le (by have := World.block_lt_of_cell? _ _ hw203_0; first | rwa [add_block] at this | exact this) GW205.out) | (rw [add_block]; exact Nat.ne_of_lt (Nat.lt_of_lt_of_le (by have := World.block_lt_of_cell? _ _ hw203_0; first | rwa [add_block] at this | exact this) GW205.out)) | (show (Addr.add _ _).block ≠ _; rw [add_block]; exact Nat.ne_of_lt (Nat.lt_of_lt_of_le (by have := World.block_lt_of_cell? _ _ hw203_0; first | rwa [add_block] at this | exact this) GW205.out)) | (dsimp only; exact Nat.ne_of_lt (Nat.lt_of_lt_of_le (by have := World.block_lt_of_cell? _ _ hw203_0; first | rwa [add_block] at this | exact this) GW205.out))) _).trans (((cell_far (p := ⟨gb205, _, none⟩) (by first | exact Nat.ne_of_lt (Nat.lt_of_lt_of_le (by have := World.block_lt_of_cell? _ _ hw203_0; first | rwa [add_block] at this | exact this) GW205.out) | (rw [add_block]; exact Nat.ne_of_lt (Nat.lt_of_lt_of_le (by have := World.block_lt_of_cell? _ _ hw203_0; first | rwa [add_block] at this | exact this) GW205.out)) | (show (Addr.add _ _).block ≠ _; rw [add_block]; exact Nat.ne_of_lt (Nat.lt_of_lt_of_le (by have := World.block_lt_of_cell? _ _ hw203_0; first | rwa [add_block] at this | exact this) GW205.out)) | (dsimp only; exact Nat.ne_of_lt (Nat.lt_of_lt_of_le (by have := World.block_lt_of_cell? _ _ hw203_0; first | rwa [add_block] at this | exact this) GW205.out))) _).trans (((cell_far (p := ⟨gb205, _, none⟩) (by first | exact Nat.ne_of_lt (Nat.lt_of_lt_of_le (by have := World.block_lt_of_cell? _ _ hw203_0; first | rwa [add_block] at this | exact this) GW205.out) | (rw [add_block]; exact Nat.ne_of_lt (Nat.lt_of_lt_of_le (by have := World.block_lt_of_cell? _ _ hw203_0; first | rwa [add_block] at this | exact this) GW205.out)) | (show (Addr.add _ _).block ≠ _; rw [add_block]; exact Nat.ne_of_lt (Nat.lt_of_lt_of_le (by have := World.block_lt_of_cell? _ _ hw203_0; first | rwa [add_block] at this | exact this) GW205.out)) | (dsimp only; exact Nat.ne_of_lt (Nat.lt_of_lt_of_le (by have := World.block_lt_of_cell? _ _ hw203_0; first | rwa [add_block] at this | exact this) GW205.out))) _).trans (hHeld.2.2.2.1)))))), ((cell_far (p := ⟨gb205, _, none⟩) (by first | exact Nat.ne_of_lt (Nat.lt_of_lt_of_le (by have := World.block_lt_of_cell? _ _ hw203_1; first | rwa [add_block] at this | exact this) GW205.out) | (rw [add_block]; exact Nat.ne_of_lt (Nat.lt_of_lt_of_le (by have := World.block_lt_of_cell? _ _ hw203_1; first | rwa [add_block] at this | exact this) GW205.out)) | (show (Addr.add _ _).block ≠ _; rw [add_block]; exact Nat.ne_of_lt (Nat.lt_of_lt_of_le (by have := World.block_lt_of_cell? _ _ hw203_1; first | rwa [add_block] at this | exact this) GW205.out)) | (dsimp only; exact Nat.ne_of_lt (Nat.lt_of_lt_of_le (by have := World.block_lt_of_cell? _ _ hw203_1; first | rwa [add_block] at this | exact this) GW205.out))) _).trans (((cell_far (p := ⟨gb205, _, none⟩) (by first | exact Nat.ne_of_lt (Nat.lt_of_lt_of_le (by have := World.block_lt_of_cell? _ _ hw203_1; first | rwa [add_block] at this | exact this) GW205.out) | (rw [add_block]; exact Nat.ne_of_lt (Nat.lt_of_lt_of_le (by have := World.block_lt_of_cell? _ _ hw203_1; first | rwa [add_block] at this | exact this) GW205.out)) | (show (Addr.add _ _).block ≠ _; rw [add_block]; exact Nat.ne_of_lt (Nat.lt_of_lt_of_le (by have := World.block_lt_of_cell? _ _ hw203_1; first | rwa [add_block] at this | exact this) GW205.out)) | (dsimp only; exact Nat.ne_of_lt (Nat.lt_of_lt_of_le (by have := World.block_lt_of_cell? _ _ hw203_1; first | rwa [add_block] at this | exact this) GW205.out))) _).trans (((cell_far (p := ⟨gb205, _, none⟩) (by first | exact Nat.ne_of_lt (Nat.lt_of_lt_of_le (by have := World.block_lt_of_cell? _ _ hw203_1; first | rwa [add_block] at this | exact this) GW205.out) | (rw [add_block]; exact Nat.ne_of_lt (Nat.lt_of_lt_of_le (by have := World.block_lt_of_cell? _ _ hw203_1; first | rwa [add_block] at this | exact this) GW205.out)) | (show (Addr.add _ _).block ≠ _; rw [add_block]; exact Nat.ne_of_lt (Nat.lt_of_lt_of_le (by have := World.block_lt_of_cell? _ _ hw203_1; first | rwa [add_block] at this | exact this) GW205.out)) | (dsimp only; exact Nat.ne_of_lt (Nat.lt_of_lt_of_le (by have := World.block_lt_of_cell? _ _ hw203_1; first | rwa [add_block] at this | exact this) GW205.out))) _).trans (hHeld.2.2.2.2.1)))))), ((cell_far (p := ⟨gb205, _, none⟩) (by first | exact Nat.ne_of_lt (Nat.lt_of_lt_of_le (by have := World.block_lt_of_cell? _ _ hw203_2; first | rwa [add_block] at this | exact this) GW205.out) | (rw [add_block]; exact Nat.ne_of_lt (Nat.lt_of_lt_of_le (by have := World.block_lt_of_cell? _ _ hw203_2; first | rwa [add_block] at this | exact this) GW205.out)) | (show (Addr.add _ _).block ≠ _; rw [add_block]; exact Nat.ne_of_lt (Nat.lt_of_lt_of_le (by have := World.block_lt_of_cell? _ _ hw203_2; first | rwa [add_block] at this | exact this) GW205.out)) | (dsimp only; exact Nat.ne_of_lt (Nat.lt_of_lt_of_le (by have := World.block_lt_of_cell? _ _ hw203_2; first | rwa [add_block] at this | exact this) GW205.out))) _).trans (((cell_far (p := ⟨gb205, _, none⟩) (by first | exact Nat.ne_of_lt (Nat.lt_of_lt_of_le (by have := World.block_lt_of_cell? _ _ hw203_2; first | rwa [add_block] at this | exact this) GW205.out) | (rw [add_block]; exact Nat.ne_of_lt (Nat.lt_of_lt_of_le (by have := World.block_lt_of_cell? _ _ hw203_2; first | rwa [add_block] at this | exact this) GW205.out)) | (show (Addr.add _ _).block ≠ _; rw [add_block]; exact Nat.ne_of_lt (Nat.lt_of_lt_of_le (by have := World.block_lt_of_cell? _ _ hw203_2; first | rwa [add_block] at this | exact this) GW205.out)) | (dsimp only; exact Nat.ne_of_lt (Nat.lt_of_lt_of_le (by have := World.block_lt_of_cell? _ _ hw203_2; first | rwa [add_block] at this | exact this) GW205.out))) _).trans (((cell_far (p := ⟨gb205, _, none⟩) (by first | exact Nat.ne_of_lt (Nat.lt_of_lt_of_le (by have := World.block_lt_of_cell? _ _ hw203_2; first | rwa [add_block] at this | exact this) GW205.out) | (rw [add_block]; exact Nat.ne_of_lt (Nat.lt_of_lt_of_le (by have := World.block_lt_of_cell? _ _ hw203_2; first | rwa [add_block] at this | exact this) GW205.out)) | (show (Addr.add _ _).block ≠ _; rw [add_block]; exact Nat.ne_of_lt (Nat.lt_of_lt_of_le (by have := World.block_lt_of_cell? _ _ hw203_2; first | rwa [add_block] at this | exact this) GW205.out)) | (dsimp only; exact Nat.ne_of_lt (Nat.lt_of_lt_of_le (by have := World.block_lt_of_cell? _ _ hw203_2; first | rwa [add_block] at this | exact this) GW205.out))) _).trans (hHeld.2.2.2.2.2.1)))))), ((cell_far (p := ⟨gb205, _, none⟩) (by first | exact Nat.ne_of_lt (Nat.lt_of_lt_of_le (by have := World.block_lt_of_cell? _ _ hw204_0; first | rwa [add_block] at this | exact this) GW205.out) | (rw [add_block]; exact Nat.ne_of_lt (Nat.lt_of_lt_of_le (by have := World.block_lt_of_cell? _ _ hw204_0; first | rwa [add_block] at this | exact this) GW205.out)) | (show (Addr.add _ _).block ≠ _; rw [add_block]; exact Nat.ne_of_lt (Nat.lt_of_lt_of_le (by have := World.block_lt_of_cell? _ _ hw204_0; first | rwa [add_block] at this | exact this) GW205.out)) | (dsimp only; exact Nat.ne_of_lt (Nat.lt_of_lt_of_le (by have := World.block_lt_of_cell? _ _ hw204_0; first | rwa [add_block] at this | exact this) GW205.out))) _).trans (((cell_far (p := ⟨gb205, _, none⟩) (by first | exact Nat.ne_of_lt (Nat.lt_of_lt_of_le (by have := World.block_lt_of_cell? _ _ hw204_0; first | rwa [add_block] at this | exact this) GW205.out) | (rw [add_block]; exact Nat.ne_of_lt (Nat.lt_of_lt_of_le (by have := World.block_lt_of_cell? _ _ hw204_0; first | rwa [add_block] at this | exact this) GW205.out)) | (show (Addr.add _ _).block ≠ _; rw [add_block]; exact Nat.ne_of_lt (Nat.lt_of_lt_of_le (by have := World.block_lt_of_cell? _ _ hw204_0; first | rwa [add_block] at this | exact this) GW205.out)) | (dsimp only; exact Nat.ne_of_lt (Nat.lt_of_lt_of_le (by have := World.block_lt_of_cell? _ _ hw204_0; first | rwa [add_block] at this | exact this) GW205.out))) _).trans (((cell_far (p := ⟨gb205, _, none⟩) (by first | exact Nat.ne_of_lt (Nat.lt_of_lt_of_le (by have := World.block_lt_of_cell? _ _ hw204_0; first | rwa [add_block] at this | exact this) GW205.out) | (rw [add_block]; exact Nat.ne_of_lt (Nat.lt_of_lt_of_le (by have := World.block_lt_of_cell? _ _ hw204_0; first | rwa [add_block] at this | exact this) GW205.out)) | (show (Addr.add _ _).block ≠ _; rw [add_block]; exact Nat.ne_of_lt (Nat.lt_of_lt_of_le (by have := World.block_lt_of_cell? _ _ hw204_0; first | rwa [add_block] at this | exact this) GW205.out)) | (dsimp only; exact Nat.ne_of_lt (Nat.lt_of_lt_of_le (by have := World.block_lt_of_cell? _ _ hw204_0; first | rwa [add_block] at this | exact this) GW205.out))) _).trans (hHeld.2.2.2.2.2.2.1)))))), ((cell_far (p := ⟨gb205, _, none⟩) (by first | exact Nat.ne_of_lt (Nat.lt_of_lt_of_le (by have := World.block_lt_of_cell? _ _ hw204_1; first | rwa [add_block] at this | exact this) GW205.out) | (rw [add_block]; exact Nat.ne_of_lt (Nat.lt_of_lt_of_le (by have := World.block_lt_of_cell? _ _ hw204_1; first | rwa [add_block] at this | exact this) GW205.out)) | (show (Addr.add _ _).block ≠ _; rw [add_block]; exact Nat.ne_of_lt (Nat.lt_of_lt_of_le (by have := World.block_lt_of_cell? _ _ hw204_1; first | rwa [add_block] at this | exact this) GW205.out)) | (dsimp only; exact Nat.ne_of_lt (Nat.lt_of_lt_of_le (by have := World.block_lt_of_cell? _ _ hw204_1; first | rwa [add_block] at this | exact this) GW205.out))) _).trans (((cell_far (p := ⟨gb205, _, none⟩) (by first | exact Nat.ne_of_lt (Nat.lt_of_lt_of_le (by have := World.block_lt_of_cell? _ _ hw204_1; first | rwa [add_block] at this | exact this) GW205.out) | (rw [add_block]; exact Nat.ne_of_lt (Nat.lt_of_lt_of_le (by have := World.block_lt_of_cell? _ _ hw204_1; first | rwa [add_block] at this | exact this) GW205.out)) | (show (Addr.add _ _).block ≠ _; rw [add_block]; exact Nat.ne_of_lt (Nat.lt_of_lt_of_le (by have := World.block_lt_of_cell? _ _ hw204_1; first | rwa [add_block] at this | exact this) GW205.out)) | (dsimp only; exact Nat.ne_of_lt (Nat.lt_of_lt_of_le (by have := World.block_lt_of_cell? _ _ hw204_1; first | rwa [add_block] at this | exact this) GW205.out))) _).trans (((cell_far (p := ⟨gb205, _, none⟩) (by first | exact Nat.ne_of_lt (Nat.lt_of_lt_of_le (by have := World.block_lt_of_cell? _ _ hw204_1; first | rwa [add_block] at this | exact this) GW205.out) | (rw [add_block]; exact Nat.ne_of_lt (Nat.lt_of_lt_of_le (by have := World.block_lt_of_cell? _ _ hw204_1; first | rwa [add_block] at this | exact this) GW205.out)) | (show (Addr.add _ _).block ≠ _; rw [add_block]; exact Nat.ne_of_lt (Nat.lt_of_lt_of_le (by have := World.block_lt_of_cell? _ _ hw204_1; first | rwa [add_block] at this | exact this) GW205.out)) | (dsimp only; exact Nat.ne_of_lt (Nat.lt_of_lt_of_le (by have := World.block_lt_of_cell? _ _ hw204_1; first | rwa [add_block] at this | exact this) GW205.out))) _).trans (hHeld.2.2.2.2.2.2.2.1)))))), ((cell_far (p := ⟨gb205, _, none⟩) (by first | exact Nat.ne_of_lt (Nat.lt_of_lt_of_le (by have := World.block_lt_of_cell? _ _ hw204_2; first | rwa [add_block] at this | exact this) GW205.out) | (rw [add_block]; exact Nat.ne_of_lt (Nat.lt_of_lt_of_le (by have := World.block_lt_of_cell? _ _ hw204_2; first | rwa [add_block] at this | exact this) GW205.out)) | (show (Addr.add _ _).block ≠ _; rw [add_block]; exact Nat.ne_of_lt (Nat.lt_of_lt_of_le (by have := World.block_lt_of_cell? _ _ hw204_2; first | rwa [add_block] at this | exact this) GW205.out)) | (dsimp only; exact Nat.ne_of_lt (Nat.lt_of_lt_of_le (by have := World.block_lt_of_cell? _ _ hw204_2; first | rwa [add_block] at this | exact this) GW205.out))) _).trans (((cell_far (p := ⟨gb205, _, none⟩) (by first | exact Nat.ne_of_lt (Nat.lt_of_lt_of_le (by have := World.block_lt_of_cell? _ _ hw204_2; first | rwa [add_block] at this | exact this) GW205.out) | (rw [add_block]; exact Nat.ne_of_lt (Nat.lt_of_lt_of_le (by have := World.block_lt_of_cell? _ _ hw204_2; first | rwa [add_block] at this | exact this) GW205.out)) | (show (Addr.add _ _).block ≠ _; rw [add_block]; exact Nat.ne_of_lt (Nat.lt_of_lt_of_le (by have := World.block_lt_of_cell? _ _ hw204_2; first | rwa [add_block] at this | exact this) GW205.out)) | (dsimp only; exact Nat.ne_of_lt (Nat.lt_of_lt_of_le (by have := World.block_lt_of_cell? _ _ hw204_2; first | rwa [add_block] at this | exact this) GW205.out))) _).trans (((cell_far (p := ⟨gb205, _, none⟩) (by first | exact Nat.ne_of_lt (Nat.lt_of_lt_of_le (by have := World.block_lt_of_cell? _ _ hw204_2; first | rwa [add_block] at this | exact this) GW205.out) | (rw [add_block]; exact Nat.ne_of_lt (Nat.lt_of_lt_of_le (by have := World.block_lt_of_cell? _ _ hw204_2; first | rwa [add_block] at this | exact this) GW205.out)) | (show (Addr.add _ _).block ≠ _; rw [add_block]; exact Nat.ne_of_lt (Nat.lt_of_lt_of_le (by have := World.block_lt_of_cell? _ _ hw204_2; first | rwa [add_block] at this | exact this) GW205.out)) | (dsimp only; exact Nat.ne_of_lt (Nat.lt_of_lt_of_le (by have := World.block_lt_of_cell? _ _ hw204_2; first | rwa [add_block] at this | exact this) GW205.out))) _).trans (hHeld.2.2.2.2.2.2.2.2))))))⟩ (fun hHeld => ?_)
            clear hK K
            refine done_ (done_of HT_.out (by kernel_rfl)) ?_
            have hnb18 := NB200_201.out
            have hnc18 := NB201_200.out
            have hnb19 := NB200_205.out
            have hnc19 := NB205_200.out
            have hcz20_0 : w14.cell? ⟨gb200, 0, none⟩ = some (.int .i64 x201000_1) := (blk_cell BK200.out 0).trans rfl
            have hcz20_1 : w14.cell? ⟨gb200, 1, none⟩ = some (.int .i64 x201001_1) := (blk_cell BK200.out 1).trans rfl
            have hcz20_2 : w14.cell? ⟨gb200, 2, none⟩ = some (.int .i64 x201002_1) := (blk_cell BK200.out 2).trans rfl
            have hfz20_0 := blk_frozen BK200.out 0
            have hfz20_1 := blk_frozen BK200.out 1
            have hfz20_2 := blk_frozen BK200.out 2
            have hnb21 := NB205_201.out
            have hnc21 := NB201_205.out
            have hcz22_0 : w14.cell? ⟨gb205, 0, none⟩ = some (.int .i64 0) := (blk_cell BK205.out 0).trans rfl
            have hcz22_1 : w14.cell? ⟨gb205, 1, none⟩ = some (.int .i64 0) := (blk_cell BK205.out 1).trans rfl
            have hcz22_2 : w14.cell? ⟨gb205, 2, none⟩ = some (.int .i64 0) := (blk_cell BK205.out 2).trans rfl
            have hfz22_0 := blk_frozen BK205.out 0
            have hfz22_1 := blk_frozen BK205.out 1
            have hfz22_2 := blk_frozen BK205.out 2
            go_upto_region 11 with (first | ((with_reducible refine gate_dst (N := 43) rfl ?_); refine Kd.R_lit k38 _ 38 ?hg (N := 43) ?hd (xs := ([(⟨wrap64 ((rd_T39 l0 x6_1).f0), wrap64 ((rd_T39 l0 x6_1).f1), wrap64 ((rd_T39 l0 x6_1).f2)⟩ : S38)] : List (S38))) (inner := [.int .i64 (wrap64 ((rd_T39 l0 x6_1).f0)), .int .i64 (wrap64 ((rd_T39 l0 x6_1).f1)), .int .i64 (wrap64 ((rd_T39 l0 x6_1).f2))]) (ok := fun _ => True) (okp := fun _ => True) ?hr ?hp (fun _ hk => hk) trivial (Below.refl _ _) (Nat.le_refl _) (by simp) ?_; (case hd => rfl); (case hg => rfl); (case hr => first | (go_simp; done) | (go_simp; rfl)); (case hp => exact (Reps.c3 (show Kd.M k38 _ _ _ (⟨wrap64 ((rd_T39 l0 x6_1).f0), wrap64 ((rd_T39 l0 x6_1).f1), wrap64 ((rd_T39 l0 x6_1).f2)⟩ : S38) [.int .i64 (wrap64 ((rd_T39 l0 x6_1).f0)), .int .i64 (wrap64 ((rd_T39 l0 x6_1).f1)), .int .i64 (wrap64 ((rd_T39 l0 x6_1).f2))] from (k38_mkM _ _ _ (⟨wrap64 ((rd_T39 l0 x6_1).f0), wrap64 ((rd_T39 l0 x6_1).f1), wrap64 ((rd_T39 l0 x6_1).f2)⟩ : S38) )) (Reps.none _ _))); intro v207 w23 ho24 hb hg_ hnew_; clear hg_ hnew_; (first | rw [← Ny206.out] at ho24 | (simp only [Int.reduceToNat] at ho24; rw [← Ny206.out] at ho24)); have n0_ := Aside0.mk (Kd.R_lower (Kd.R_newB (Kd.R_newB ho24 (g := gb201) (o := .cells #[.int .i64 x202000_1, .int .i64 x202001_1, .int .i64 x202002_1] 38 (0, 0)) (by (with_reducible repeat (first | refine blk_drewN ?_ _ | refine blk_drew ?_ | refine blk_alloc ?_ _)); refine blk_far ?_ NB201_205.out _; (with_reducible repeat (first | refine blk_drewN ?_ _ | refine blk_drew ?_ | refine blk_alloc ?_ _)); refine blk_far ?_ NB201_205.out _; (with_reducible repeat (first | refine blk_drewN ?_ _ | refine blk_drew ?_ | refine blk_alloc ?_ _)); refine blk_far ?_ NB201_205.out _; (with_reducible repeat (first | refine blk_drewN ?_ _ | refine blk_drew ?_ | refine blk_alloc ?_ _)); exact BK201.out)) (g := gb205) (o := .cells #[.int .i64 (wrap64 ((rd_T39 l0 x6_1).f0)), .int .i64 (wrap64 ((rd_T39 l0 x6_1).f1)), .int .i64 (wrap64 ((rd_T39 l0 x6_1).f2))] 38 (0, 0)) (by (with_reducible repeat (first | refine blk_drewN ?_ _ | refine blk_drew ?_ | refine blk_alloc ?_ _)); refine blk_put (cs := #[.int .i64 (wrap64 ((rd_T39 l0 x6_1).f0)), .int .i64 (wrap64 ((rd_T39 l0 x6_1).f1)), .int .i64 0]) ?_ 2 _ rfl; (with_reducible repeat (first | refine blk_drewN ?_ _ | refine blk_drew ?_ | refine blk_alloc ?_ _)); refine blk_put (cs := #[.int .i64 (wrap64 ((rd_T39 l0 x6_1).f0)), .int .i64 0, .int .i64 0]) ?_ 1 _ rfl; (with_reducible repeat (first | refine blk_drewN ?_ _ | refine blk_drew ?_ | refine blk_alloc ?_ _)); refine blk_put (cs := #[.int .i64 0, .int .i64 0, .int .i64 0]) ?_ 0 _ rfl; (with_reducible repeat (first | refine blk_drewN ?_ _ | refine blk_drew ?_ | refine blk_alloc ?_ _)); exact BK205.out)) (below_size (by repeat (first | (with_reducible first | exact HB.out | apply below_alloc | apply pw_below_drewN | apply below_drew1 | refine below_set ?_ GE200.out | refine below_set ?_ GE201.out | refine below_set ?_ GE205.out) | exact HB.out)))); have n1_ := Aside0.mk (blk_below (g := gb200) (o := .cells #[.int .i64 x201000_1, .int .i64 x201001_1, .int .i64 x201002_1] 23 (0, 0)) (by (with_reducible repeat (first | refine blk_drewN ?_ _ | refine blk_drew ?_ | refine blk_alloc ?_ _)); refine blk_far ?_ NB200_205.out _; (with_reducible repeat (first | refine blk_drewN ?_ _ | refine blk_drew ?_ | refine blk_alloc ?_ _)); refine blk_far ?_ NB200_205.out _; (with_reducible repeat (first | refine blk_drewN ?_ _ | refine blk_drew ?_ | refine blk_alloc ?_ _)); refine blk_far ?_ NB200_205.out _; (with_reducible repeat (first | refine blk_drewN ?_ _ | refine blk_drew ?_ | refine blk_alloc ?_ _)); exact BK200.out) hb); have n2_ := Aside0.mk (blk_below (g := gb201) (o := .cells #[.int .i64 x202000_1, .int .i64 x202001_1, .int .i64 x202002_1] 38 (0, 0)) (by (with_reducible repeat (first | refine blk_drewN ?_ _ | refine blk_drew ?_ | refine blk_alloc ?_ _)); refine blk_far ?_ NB201_205.out _; (with_reducible repeat (first | refine blk_drewN ?_ _ | refine blk_drew ?_ | refine blk_alloc ?_ _)); refine blk_far ?_ NB201_205.out _; (with_reducible repeat (first | refine blk_drewN ?_ _ | refine blk_drew ?_ | refine blk_alloc ?_ _)); refine blk_far ?_ NB201_205.out _; (with_reducible repeat (first | refine blk_drewN ?_ _ | refine blk_drew ?_ | refine blk_alloc ?_ _)); exact BK201.out) hb); have n3_ := Aside0.mk (blk_below (g := gb205) (o := .cells #[.int .i64 (wrap64 ((rd_T39 l0 x6_1).f0)), .int .i64 (wrap64 ((rd_T39 l0 x6_1).f1)), .int .i64 (wrap64 ((rd_T39 l0 x6_1).f2))] 38 (0, 0)) (by (with_reducible repeat (first | refine blk_drewN ?_ _ | refine blk_drew ?_ | refine blk_alloc ?_ _)); refine blk_put (cs := #[.int .i64 (wrap64 ((rd_T39 l0 x6_1).f0)), .int .i64 (wrap64 ((rd_T39 l0 x6_1).f1)), .int .i64 0]) ?_ 2 _ rfl; (with_reducible repeat (first | refine blk_drewN ?_ _ | refine blk_drew ?_ | refine blk_alloc ?_ _)); refine blk_put (cs := #[.int .i64 (wrap64 ((rd_T39 l0 x6_1).f0)), .int .i64 0, .int .i64 0]) ?_ 1 _ rfl; (with_reducible repeat (first | refine blk_drewN ?_ _ | refine blk_drew ?_ | refine blk_alloc ?_ _)); refine blk_put (cs := #[.int .i64 0, .int .i64 0, .int .i64 0]) ?_ 0 _ rfl; (with_reducible repeat (first | refine blk_drewN ?_ _ | refine blk_drew ?_ | refine blk_alloc ?_ _)); exact BK205.out) hb); have n4_ := Aside0.mk (below_step (by repeat (first | (with_reducible first | exact HB.out | apply below_alloc | apply pw_below_drewN | apply below_drew1 | refine below_set ?_ GE200.out | refine below_set ?_ GE201.out | refine below_set ?_ GE205.out) | exact HB.out)) hb); clear BK200; clear BK201; clear BK205; clear HB; have HO208 := n0_; have BK200 := n1_; have BK201 := n2_; have BK205 := n3_; have HB := n4_; clear n0_ n1_ n2_ n3_ n4_; clear hb ho24; obtain ⟨Ao25, co25, eo25⟩ := Kd.R_slice HO208.out; subst eo25) | ((with_reducible refine gate_callee (f := 10) rfl ?_); refine goesL_ (some 44) rfl rfl Try.func10 (by kernel_rfl) rfl #[.agg #[.int .i64 x201000_1, .int .i64 x201001_1, .int .i64 x201002_1], .slice Ao25 y206.length co25] rfl (by (try simp only [List.map_toArray, List.map_cons, List.map_nil]); first | done | rfl | (simp only [List.length_drop, List.length_take]; rfl)) ?_; (with_reducible refine (flight_Do.calls k1 x201000_1 x201001_1 x201002_1 _ _ y206 t209 t210 t211 t212 _ ?side1 ?side2 A11.out).mono ?_); (case side1 => repeat (first | exact (Kd.R_reads' HO208.out).2.2 | (with_reducible refine Kd.C_alloc ?_ _) | (with_reducible refine Kd.C_drewN ?_ _) | (with_reducible refine Kd.C_drew ?_))); (case side2 => exact (Kd.R_reads' HO208.out).2.1); rintro e w26 ⟨v213, rfl, ho0, hb⟩; refine ⟨_, rfl, ?_⟩; have n0_ := Aside0.mk (Kd.R_below (by (with_reducible repeat (first | apply Kd.R_alloc | apply Kd.R_drewN | apply Kd.R_drew)); exact HO208.out) hb); have n1_ := Aside0.mk (Kd.R_lower ho0 (below_size (by repeat (first | (with_reducible first | exact HB.out | apply below_alloc | apply pw_below_drewN | apply below_drew1 | refine below_set ?_ GE200.out | refine below_set ?_ GE201.out | refine below_set ?_ GE205.out) | exact HB.out)))); have n2_ := Aside0.mk (blk_below (g := gb200) (o := .cells #[.int .i64 x201000_1, .int .i64 x201001_1, .int .i64 x201002_1] 23 (0, 0)) (by (with_reducible repeat (first | refine blk_drewN ?_ _ | refine blk_drew ?_ | refine blk_alloc ?_ _)); exact BK200.out) hb); have n3_ := Aside0.mk (blk_below (g := gb201) (o := .cells #[.int .i64 x202000_1, .int .i64 x202001_1, .int .i64 x202002_1] 38 (0, 0)) (by (with_reducible repeat (first | refine blk_drewN ?_ _ | refine blk_drew ?_ | refine blk_alloc ?_ _)); exact BK201.out) hb); have n4_ := Aside0.mk (blk_below (g := gb205) (o := .cells #[.int .i64 (wrap64 ((rd_T39 l0 x6_1).f0)), .int .i64 (wrap64 ((rd_T39 l0 x6_1).f1)), .int .i64 (wrap64 ((rd_T39 l0 x6_1).f2))] 38 (0, 0)) (by (with_reducible repeat (first | refine blk_drewN ?_ _ | refine blk_drew ?_ | refine blk_alloc ?_ _)); exact BK205.out) hb); have n5_ := Aside0.mk (below_step (by repeat (first | (with_reducible first | exact HB.out | apply below_alloc | apply pw_below_drewN | apply below_drew1 | refine below_set ?_ GE200.out | refine below_set ?_ GE201.out | refine below_set ?_ GE205.out) | exact HB.out)) hb); clear HO208; clear BK200; clear BK201; clear BK205; clear HB; have HO208 := n0_; have HO214 := n1_; have BK200 := n2_; have BK201 := n3_; have BK205 := n4_; have HB := n5_; clear n0_ n1_ n2_ n3_ n4_ n5_; (try clear hb); (try clear hb2); (try clear hk); (try clear hi); (try clear ho0)) | ((with_reducible refine gate_dst (N := 8) rfl ?_); refine box_event ?hg (N := 8) ?hd (cs := #[.int .i64 0, .int .i64 0, .int .i64 0]) (t := 23) ?hr ?_; (case hd => rfl); (case hg => rfl); (case hr => first | (go_simp; done) | (go_simp; rfl)); intro gb215 hg w27 hbox hb; have n0_ := Aside0.mk (Kd.R_below (by (with_reducible repeat (first | apply Kd.R_alloc | apply Kd.R_drewN | apply Kd.R_drew)); exact HO208.out) hb); have n1_ := Aside0.mk (Kd.R_below (by (with_reducible repeat (first | apply Kd.R_alloc | apply Kd.R_drewN | apply Kd.R_drew)); exact HO214.out) hb); have n2_ := Aside0.mk (blk_below (g := gb200) (o := .cells #[.int .i64 x201000_1, .int .i64 x201001_1, .int .i64 x201002_1] 23 (0, 0)) (by (with_reducible repeat (first | refine blk_drewN ?_ _ | refine blk_drew ?_ | refine blk_alloc ?_ _)); exact BK200.out) hb); have n3_ := Aside0.mk (blk_below (g := gb201) (o := .cells #[.int .i64 x202000_1, .int .i64 x202001_1, .int .i64 x202002_1] 38 (0, 0)) (by (with_reducible repeat (first | refine blk_drewN ?_ _ | refine blk_drew ?_ | refine blk_alloc ?_ _)); exact BK201.out) hb); have n4_ := Aside0.mk (blk_below (g := gb205) (o := .cells #[.int .i64 (wrap64 ((rd_T39 l0 x6_1).f0)), .int .i64 (wrap64 ((rd_T39 l0 x6_1).f1)), .int .i64 (wrap64 ((rd_T39 l0 x6_1).f2))] 38 (0, 0)) (by (with_reducible repeat (first | refine blk_drewN ?_ _ | refine blk_drew ?_ | refine blk_alloc ?_ _)); exact BK205.out) hb); have n5_ := Aside0.mk (below_step (by repeat (first | (with_reducible first | exact HB.out | apply below_alloc | apply pw_below_drewN | apply below_drew1 | refine below_set ?_ GE200.out | refine below_set ?_ GE201.out | refine below_set ?_ GE205.out) | exact HB.out)) hb); have n6_ := Aside0.mk (hbox); have n7_ := Aside0.mk ((by rw [hg]; exact (below_size (by repeat (first | (with_reducible first | exact HB.out | apply below_alloc | apply pw_below_drewN | apply below_drew1 | refine below_set ?_ GE200.out | refine below_set ?_ GE201.out | refine below_set ?_ GE205.out) | exact HB.out))) : w.heap.size ≤ gb215)); have n8_ := Aside0.mk ((by rw [hg]; exact (below_size (by repeat (first | (with_reducible first | exact HB.out | apply below_alloc | apply pw_below_drewN | apply below_drew1 | refine below_set ?_ GE200.out | refine below_set ?_ GE201.out | refine below_set ?_ GE205.out) | exact HB.out))) : w.heap.size ≤ gb215)); have n9_ := Aside0.mk ((by rw [hg]; exact Nat.ne_of_lt (blk_lt (g := gb200) (o := .cells #[.int .i64 x201000_1, .int .i64 x201001_1, .int .i64 x201002_1] 23 (0, 0)) (by (with_reducible repeat (first | refine blk_drewN ?_ _ | refine blk_drew ?_ | refine blk_alloc ?_ _)); exact BK200.out)) : gb200 ≠ gb215)); have n10_ := Aside0.mk ((by rw [hg]; exact Nat.ne_of_gt (blk_lt (g := gb200) (o := .cells #[.int .i64 x201000_1, .int .i64 x201001_1, .int .i64 x201002_1] 23 (0, 0)) (by (with_reducible repeat (first | refine blk_drewN ?_ _ | refine blk_drew ?_ | refine blk_alloc ?_ _)); exact BK200.out)) : gb215 ≠ gb200)); have n11_ := Aside0.mk ((by rw [hg]; exact Nat.ne_of_lt (blk_lt (g := gb201) (o := .cells #[.int .i64 x202000_1, .int .i64 x202001_1, .int .i64 x202002_1] 38 (0, 0)) (by (with_reducible repeat (first | refine blk_drewN ?_ _ | refine blk_drew ?_ | refine blk_alloc ?_ _)); exact BK201.out)) : gb201 ≠ gb215)); have n12_ := Aside0.mk ((by rw [hg]; exact Nat.ne_of_gt (blk_lt (g := gb201) (o := .cells #[.int .i64 x202000_1, .int .i64 x202001_1, .int .i64 x202002_1] 38 (0, 0)) (by (with_reducible repeat (first | refine blk_drewN ?_ _ | refine blk_drew ?_ | refine blk_alloc ?_ _)); exact BK201.out)) : gb215 ≠ gb201)); have n13_ := Aside0.mk ((by rw [hg]; exact Nat.ne_of_lt (blk_lt (g := gb205) (o := .cells #[.int .i64 (wrap64 ((rd_T39 l0 x6_1).f0)), .int .i64 (wrap64 ((rd_T39 l0 x6_1).f1)), .int .i64 (wrap64 ((rd_T39 l0 x6_1).f2))] 38 (0, 0)) (by (with_reducible repeat (first | refine blk_drewN ?_ _ | refine blk_drew ?_ | refine blk_alloc ?_ _)); exact BK205.out)) : gb205 ≠ gb215)); have n14_ := Aside0.mk ((by rw [hg]; exact Nat.ne_of_gt (blk_lt (g := gb205) (o := .cells #[.int .i64 (wrap64 ((rd_T39 l0 x6_1).f0)), .int .i64 (wrap64 ((rd_T39 l0 x6_1).f1)), .int .i64 (wrap64 ((rd_T39 l0 x6_1).f2))] 38 (0, 0)) (by (with_reducible repeat (first | refine blk_drewN ?_ _ | refine blk_drew ?_ | refine blk_alloc ?_ _)); exact BK205.out)) : gb215 ≠ gb205)); clear HO208; clear HO214; clear BK200; clear BK201; clear BK205; clear HB; have HO208 := n0_; have HO214 := n1_; have BK200 := n2_; have BK201 := n3_; have BK205 := n4_; have HB := n5_; have BK215 := n6_; have GW215 := n7_; have GE215 := n8_; have NB200_215 := n9_; have NB215_200 := n10_; have NB201_215 := n11_; have NB215_201 := n12_; have NB205_215 := n13_; have NB215_205 := n14_; clear n0_ n1_ n2_ n3_ n4_ n5_ n6_ n7_ n8_ n9_ n10_ n11_ n12_ n13_ n14_; clear hb hbox hg; have hnb28 := NB215_200.out; have hnc28 := NB200_215.out; have hnb29 := NB215_201.out; have hnc29 := NB201_215.out; have hnb30 := NB215_205.out; have hnc30 := NB205_215.out; have hcz31_0 : w27.cell? ⟨gb215, 0, none⟩ = some (.int .i64 0) := (blk_cell BK215.out 0).trans rfl; have hcz31_1 : w27.cell? ⟨gb215, 1, none⟩ = some (.int .i64 0) := (blk_cell BK215.out 1).trans rfl; have hcz31_2 : w27.cell? ⟨gb215, 2, none⟩ = some (.int .i64 0) := (blk_cell BK215.out 2).trans rfl; have hfz31_0 := blk_frozen BK215.out 0; have hfz31_1 := blk_frozen BK215.out 1; have hfz31_2 := blk_frozen BK215.out 2))
            (try simp only [Act.put, List.setIfInBounds_toArray, List.set_cons_zero, List.set_cons_succ])
            go_cut [60] (fun v60 wc => ∃ (kq : Nat) (x60_11 : Bool), v60 = .bool x60_11 ∧ Aside0 (sawtoothlaw16_FlightSums.j1 kq l0 t199 x6_1 t212 x60_11 x202000_1 x202001_1 x202002_1 (wrap64 ((rd_T39 l0 x6_1).f0)) (wrap64 ((rd_T39 l0 x6_1).f1)) (wrap64 ((rd_T39 l0 x6_1).f2)) t209 t210 t211 = some r) ∧ Aside0 (kq ≤ k1) ∧ Aside0 (Kd.R (Kd.int .i64) 29 wc w.heap.size (fun _ => True) v213 t212) ∧ Aside0 (wc.heap[gb200]? = some (.cells #[.int .i64 x201000_1, .int .i64 x201001_1, .int .i64 x201002_1] 23 (0, 0))) ∧ Aside0 (wc.heap[gb201]? = some (.cells #[.int .i64 x202000_1, .int .i64 x202001_1, .int .i64 x202002_1] 38 (0, 0))) ∧ Aside0 (wc.heap[gb205]? = some (.cells #[.int .i64 (wrap64 ((rd_T39 l0 x6_1).f0)), .int .i64 (wrap64 ((rd_T39 l0 x6_1).f1)), .int .i64 (wrap64 ((rd_T39 l0 x6_1).f2))] 38 (0, 0))) ∧ Aside0 (wc.heap[gb215]? = some (.cells #[.int .i64 t209, .int .i64 t210, .int .i64 t211] 23 (0, 0))) ∧ Aside0 (Below w.heap.size w wc))
            case first =>
              have H := HC12.out
              clear HC12
              by_cases c32 : (t212.length : Int) = 1
              · rw [if_pos c32] at H
                have c32b0 : ((t212.length : Int) == 1) = true := beq_iff_eq.mpr c32
                have c32b1 : ((t212.length : Int) != 1) = false := bne_eq_false_iff_eq.mpr c32
                clear c32
                (first | rw [c32b0] | (simp only [i64_w, i32_w]; rw [c32b0]) | skip)
                by_cases c33 : 0 < (t212.length : Int)
                · rw [if_pos c33] at H
                  have c33b0 : decide (0 < (t212.length : Int)) = true := decide_eq_true c33
                  have c33b1 : decide (0 < t212.length) = true := decide_eq_true (by omega)
                  clear c33
                  by_cases c34 : (rd t212 0) = 0
                  · rw [if_pos c34] at H
                    have c34b0 : ((rd t212 0) == 0) = true := beq_iff_eq.mpr c34
                    have c34b1 : ((rd t212 0) != 0) = false := bne_eq_false_iff_eq.mpr c34
                    clear c34
                    have H' := Aside0.mk H
                    clear H
                    obtain ⟨Ao35, co35, eo35⟩ := Kd.R_slice HO214.out
                    subst eo35
                    have p216 : 0 ≤ (0 : Int) := (by omega)
                    have q216 : 0 < (t212.length : Int) := of_decide_eq_true (by first | (with_reducible assumption) | assumption)
                    obtain ⟨ad216, e216, hx216_0⟩ := Kd.at_int (Kd.R_reads' HO214.out).2.2 0 p216 q216
                    cases e216
                    have qi216 : (0 < t212.length) = True := eq_true (by omega)
                    (try rw [show ((0 : Int)).toNat = 0 from rfl] at hx216_0)
                    (try rw [Addr.add_zero'] at hx216_0)
                    have hn216_0 : ad216.block ≠ gb215 := Kd.own_blk (Kd.R_ne HO214.out BK215.out (by decide))
                    have hn216_1 : ad216.block ≠ gb215 := Kd.own_blk (Kd.R_ne HO214.out BK215.out (by decide))
                    have hn216_2 : ad216.block ≠ gb215 := Kd.own_blk (Kd.R_ne HO214.out BK215.out (by decide))
                    replace hx216_0 := (cell_far (p := ⟨gb215, 0, none⟩) (by first | (rw [add_block]; exact hn216_0) | (show (Addr.add _ _).block ≠ _; rw [add_block]; exact hn216_0) | exact hn216_0) (.int .i64 t209)).trans hx216_0
                    replace hx216_0 := (cell_far (p := ⟨gb215, 1, none⟩) (by first | (rw [add_block]; exact hn216_1) | (show (Addr.add _ _).block ≠ _; rw [add_block]; exact hn216_1) | exact hn216_1) (.int .i64 t210)).trans hx216_0
                    replace hx216_0 := (cell_far (p := ⟨gb215, 2, none⟩) (by first | (rw [add_block]; exact hn216_2) | (show (Addr.add _ _).block ≠ _; rw [add_block]; exact hn216_2) | exact hn216_2) (.int .i64 t211)).trans hx216_0
                    clear hn216_0
                    clear hn216_1
                    clear hn216_2
                    replace p216 := eq_true p216
                    replace q216 := eq_true q216
                    go_wp2
                    go_meet
                    case rel => exact ⟨_, (false), (by first | rfl | (simp; done) | (simp [*]; done)), H', ⟨by have := HK1.out; first | omega | exact Nat.le_refl _⟩, ⟨by (with_reducible repeat (first | apply Kd.R_alloc | apply Kd.R_drewN | apply Kd.R_drew)); exact Kd.R_mono (Kd.R_far (p := ⟨gb215, 2, none⟩) (Kd.R_far (p := ⟨gb215, 1, none⟩) (Kd.R_far (p := ⟨gb215, 0, none⟩) (Kd.R_types HO214.out BK215.out (by decide)) (fun _ hk => hk.2) (.int .i64 t209)) (fun _ hk => hk.2) (.int .i64 t210)) (fun _ hk => hk.2) (.int .i64 t211)) (fun _ hk => trivial)⟩, ⟨by (with_reducible repeat (first | refine blk_drewN ?_ _ | refine blk_drew ?_ | refine blk_alloc ?_ _)); refine blk_far ?_ NB200_215.out _; (with_reducible repeat (first | refine blk_drewN ?_ _ | refine blk_drew ?_ | refine blk_alloc ?_ _)); refine blk_far ?_ NB200_215.out _; (with_reducible repeat (first | refine blk_drewN ?_ _ | refine blk_drew ?_ | refine blk_alloc ?_ _)); refine blk_far ?_ NB200_215.out _; (with_reducible repeat (first | refine blk_drewN ?_ _ | refine blk_drew ?_ | refine blk_alloc ?_ _)); exact BK200.out⟩, ⟨by (with_reducible repeat (first | refine blk_drewN ?_ _ | refine blk_drew ?_ | refine blk_alloc ?_ _)); refine blk_far ?_ NB201_215.out _; (with_reducible repeat (first | refine blk_drewN ?_ _ | refine blk_drew ?_ | refine blk_alloc ?_ _)); refine blk_far ?_ NB201_215.out _; (with_reducible repeat (first | refine blk_drewN ?_ _ | refine blk_drew ?_ | refine blk_alloc ?_ _)); refine blk_far ?_ NB201_215.out _; (with_reducible repeat (first | refine blk_drewN ?_ _ | refine blk_drew ?_ | refine blk_alloc ?_ _)); exact BK201.out⟩, ⟨by (with_reducible repeat (first | refine blk_drewN ?_ _ | refine blk_drew ?_ | refine blk_alloc ?_ _)); refine blk_far ?_ NB205_215.out _; (with_reducible repeat (first | refine blk_drewN ?_ _ | refine blk_drew ?_ | refine blk_alloc ?_ _)); refine blk_far ?_ NB205_215.out _; (with_reducible repeat (first | refine blk_drewN ?_ _ | refine blk_drew ?_ | refine blk_alloc ?_ _)); refine blk_far ?_ NB205_215.out _; (with_reducible repeat (first | refine blk_drewN ?_ _ | refine blk_drew ?_ | refine blk_alloc ?_ _)); exact BK205.out⟩, ⟨by (with_reducible repeat (first | refine blk_drewN ?_ _ | refine blk_drew ?_ | refine blk_alloc ?_ _)); refine blk_put (cs := #[.int .i64 t209, .int .i64 t210, .int .i64 0]) ?_ 2 _ rfl; (with_reducible repeat (first | refine blk_drewN ?_ _ | refine blk_drew ?_ | refine blk_alloc ?_ _)); refine blk_put (cs := #[.int .i64 t209, .int .i64 0, .int .i64 0]) ?_ 1 _ rfl; (with_reducible repeat (first | refine blk_drewN ?_ _ | refine blk_drew ?_ | refine blk_alloc ?_ _)); refine blk_put (cs := #[.int .i64 0, .int .i64 0, .int .i64 0]) ?_ 0 _ rfl; (with_reducible repeat (first | refine blk_drewN ?_ _ | refine blk_drew ?_ | refine blk_alloc ?_ _)); exact BK215.out⟩, ⟨by repeat (first | (with_reducible first | exact HB.out | apply below_alloc | apply pw_below_drewN | apply below_drew1 | refine below_set ?_ GE200.out | refine below_set ?_ GE201.out | refine below_set ?_ GE205.out | refine below_set ?_ GE215.out) | exact HB.out)⟩⟩
                  · rw [if_neg c34] at H
                    have c34b0 : ((rd t212 0) == 0) = false := beq_eq_false_iff_ne.mpr c34
                    have c34b1 : ((rd t212 0) != 0) = true := bne_iff_ne.mpr c34
                    have H' := Aside0.mk H
                    clear H
                    obtain ⟨Ao36, co36, eo36⟩ := Kd.R_slice HO214.out
                    subst eo36
                    have p216 : 0 ≤ (0 : Int) := (by omega)
                    have q216 : 0 < (t212.length : Int) := of_decide_eq_true (by first | (with_reducible assumption) | assumption)
                    obtain ⟨ad216, e216, hx216_0⟩ := Kd.at_int (Kd.R_reads' HO214.out).2.2 0 p216 q216
                    cases e216
                    have qi216 : (0 < t212.length) = True := eq_true (by omega)
                    (try rw [show ((0 : Int)).toNat = 0 from rfl] at hx216_0)
                    (try rw [Addr.add_zero'] at hx216_0)
                    have hn216_0 : ad216.block ≠ gb215 := Kd.own_blk (Kd.R_ne HO214.out BK215.out (by decide))
                    have hn216_1 : ad216.block ≠ gb215 := Kd.own_blk (Kd.R_ne HO214.out BK215.out (by decide))
                    have hn216_2 : ad216.block ≠ gb215 := Kd.own_blk (Kd.R_ne HO214.out BK215.out (by decide))
                    replace hx216_0 := (cell_far (p := ⟨gb215, 0, none⟩) (by first | (rw [add_block]; exact hn216_0) | (show (Addr.add _ _).block ≠ _; rw [add_block]; exact hn216_0) | exact hn216_0) (.int .i64 t209)).trans hx216_0
                    replace hx216_0 := (cell_far (p := ⟨gb215, 1, none⟩) (by first | (rw [add_block]; exact hn216_1) | (show (Addr.add _ _).block ≠ _; rw [add_block]; exact hn216_1) | exact hn216_1) (.int .i64 t210)).trans hx216_0
                    replace hx216_0 := (cell_far (p := ⟨gb215, 2, none⟩) (by first | (rw [add_block]; exact hn216_2) | (show (Addr.add _ _).block ≠ _; rw [add_block]; exact hn216_2) | exact hn216_2) (.int .i64 t211)).trans hx216_0
                    clear hn216_0
                    clear hn216_1
                    clear hn216_2
                    replace p216 := eq_true p216
                    replace q216 := eq_true q216
                    have hnb37 := NB215_200.out
                    have hnc37 := NB200_215.out
                    have hnb38 := NB215_201.out
                    have hnc38 := NB201_215.out
                    have hnb39 := NB215_205.out
                    have hnc39 := NB205_215.out
                    have hcz40_0 : w27.cell? ⟨gb215, 0, none⟩ = some (.int .i64 0) := (blk_cell BK215.out 0).trans rfl
                    have hcz40_1 : w27.cell? ⟨gb215, 1, none⟩ = some (.int .i64 0) := (blk_cell BK215.out 1).trans rfl
                    have hcz40_2 : w27.cell? ⟨gb215, 2, none⟩ = some (.int .i64 0) := (blk_cell BK215.out 2).trans rfl
                    have hfz40_0 := blk_frozen BK215.out 0
                    have hfz40_1 := blk_frozen BK215.out 1
                    have hfz40_2 := blk_frozen BK215.out 2
                    have hnb41 := NB200_201.out
                    have hnc41 := NB201_200.out
                    have hnb42 := NB200_205.out
                    have hnc42 := NB205_200.out
                    have hcz43_0 : w27.cell? ⟨gb200, 0, none⟩ = some (.int .i64 x201000_1) := (blk_cell BK200.out 0).trans rfl
                    have hcz43_1 : w27.cell? ⟨gb200, 1, none⟩ = some (.int .i64 x201001_1) := (blk_cell BK200.out 1).trans rfl
                    have hcz43_2 : w27.cell? ⟨gb200, 2, none⟩ = some (.int .i64 x201002_1) := (blk_cell BK200.out 2).trans rfl
                    have hfz43_0 := blk_frozen BK200.out 0
                    have hfz43_1 := blk_frozen BK200.out 1
                    have hfz43_2 := blk_frozen BK200.out 2
                    go_wp2
                    go_meet
                    case rel => exact ⟨_, ((!(t209 == x201000_1) || (!(t210 == x201001_1) || (!(t211 == x201002_1))))), (by first | rfl | (simp; done) | (simp [*]; done)), H', ⟨by have := HK1.out; first | omega | exact Nat.le_refl _⟩, ⟨by (with_reducible repeat (first | apply Kd.R_alloc | apply Kd.R_drewN | apply Kd.R_drew)); exact Kd.R_mono (Kd.R_far (p := ⟨gb215, 2, none⟩) (Kd.R_far (p := ⟨gb215, 1, none⟩) (Kd.R_far (p := ⟨gb215, 0, none⟩) (Kd.R_types HO214.out BK215.out (by decide)) (fun _ hk => hk.2) (.int .i64 t209)) (fun _ hk => hk.2) (.int .i64 t210)) (fun _ hk => hk.2) (.int .i64 t211)) (fun _ hk => trivial)⟩, ⟨by (with_reducible repeat (first | refine blk_drewN ?_ _ | refine blk_drew ?_ | refine blk_alloc ?_ _)); refine blk_far ?_ NB200_215.out _; (with_reducible repeat (first | refine blk_drewN ?_ _ | refine blk_drew ?_ | refine blk_alloc ?_ _)); refine blk_far ?_ NB200_215.out _; (with_reducible repeat (first | refine blk_drewN ?_ _ | refine blk_drew ?_ | refine blk_alloc ?_ _)); refine blk_far ?_ NB200_215.out _; (with_reducible repeat (first | refine blk_drewN ?_ _ | refine blk_drew ?_ | refine blk_alloc ?_ _)); exact BK200.out⟩, ⟨by (with_reducible repeat (first | refine blk_drewN ?_ _ | refine blk_drew ?_ | refine blk_alloc ?_ _)); refine blk_far ?_ NB201_215.out _; (with_reducible repeat (first | refine blk_drewN ?_ _ | refine blk_drew ?_ | refine blk_alloc ?_ _)); refine blk_far ?_ NB201_215.out _; (with_reducible repeat (first | refine blk_drewN ?_ _ | refine blk_drew ?_ | refine blk_alloc ?_ _)); refine blk_far ?_ NB201_215.out _; (with_reducible repeat (first | refine blk_drewN ?_ _ | refine blk_drew ?_ | refine blk_alloc ?_ _)); exact BK201.out⟩, ⟨by (with_reducible repeat (first | refine blk_drewN ?_ _ | refine blk_drew ?_ | refine blk_alloc ?_ _)); refine blk_far ?_ NB205_215.out _; (with_reducible repeat (first | refine blk_drewN ?_ _ | refine blk_drew ?_ | refine blk_alloc ?_ _)); refine blk_far ?_ NB205_215.out _; (with_reducible repeat (first | refine blk_drewN ?_ _ | refine blk_drew ?_ | refine blk_alloc ?_ _)); refine blk_far ?_ NB205_215.out _; (with_reducible repeat (first | refine blk_drewN ?_ _ | refine blk_drew ?_ | refine blk_alloc ?_ _)); exact BK205.out⟩, ⟨by (with_reducible repeat (first | refine blk_drewN ?_ _ | refine blk_drew ?_ | refine blk_alloc ?_ _)); refine blk_put (cs := #[.int .i64 t209, .int .i64 t210, .int .i64 0]) ?_ 2 _ rfl; (with_reducible repeat (first | refine blk_drewN ?_ _ | refine blk_drew ?_ | refine blk_alloc ?_ _)); refine blk_put (cs := #[.int .i64 t209, .int .i64 0, .int .i64 0]) ?_ 1 _ rfl; (with_reducible repeat (first | refine blk_drewN ?_ _ | refine blk_drew ?_ | refine blk_alloc ?_ _)); refine blk_put (cs := #[.int .i64 0, .int .i64 0, .int .i64 0]) ?_ 0 _ rfl; (with_reducible repeat (first | refine blk_drewN ?_ _ | refine blk_drew ?_ | refine blk_alloc ?_ _)); exact BK215.out⟩, ⟨by repeat (first | (with_reducible first | exact HB.out | apply below_alloc | apply pw_below_drewN | apply below_drew1 | refine below_set ?_ GE200.out | refine below_set ?_ GE201.out | refine below_set ?_ GE205.out | refine below_set ?_ GE215.out) | exact HB.out)⟩⟩
                · rw [if_neg c33] at H
                  exact absurd H (by simp)
              · rw [if_neg c32] at H
                have c32b0 : ((t212.length : Int) == 1) = false := beq_eq_false_iff_ne.mpr c32
                have c32b1 : ((t212.length : Int) != 1) = true := bne_iff_ne.mpr c32
                (first | rw [c32b0] | (simp only [i64_w, i32_w]; rw [c32b0]) | skip)
                have H' := Aside0.mk H
                clear H
                obtain ⟨Ao44, co44, eo44⟩ := Kd.R_slice HO214.out
                subst eo44
                go_wp2
                go_meet
                case rel => exact ⟨_, (true), (by first | rfl | (simp; done) | (simp [*]; done)), H', ⟨by have := HK1.out; first | omega | exact Nat.le_refl _⟩, ⟨by (with_reducible repeat (first | apply Kd.R_alloc | apply Kd.R_drewN | apply Kd.R_drew)); exact Kd.R_mono (Kd.R_far (p := ⟨gb215, 2, none⟩) (Kd.R_far (p := ⟨gb215, 1, none⟩) (Kd.R_far (p := ⟨gb215, 0, none⟩) (Kd.R_types HO214.out BK215.out (by decide)) (fun _ hk => hk.2) (.int .i64 t209)) (fun _ hk => hk.2) (.int .i64 t210)) (fun _ hk => hk.2) (.int .i64 t211)) (fun _ hk => trivial)⟩, ⟨by (with_reducible repeat (first | refine blk_drewN ?_ _ | refine blk_drew ?_ | refine blk_alloc ?_ _)); refine blk_far ?_ NB200_215.out _; (with_reducible repeat (first | refine blk_drewN ?_ _ | refine blk_drew ?_ | refine blk_alloc ?_ _)); refine blk_far ?_ NB200_215.out _; (with_reducible repeat (first | refine blk_drewN ?_ _ | refine blk_drew ?_ | refine blk_alloc ?_ _)); refine blk_far ?_ NB200_215.out _; (with_reducible repeat (first | refine blk_drewN ?_ _ | refine blk_drew ?_ | refine blk_alloc ?_ _)); exact BK200.out⟩, ⟨by (with_reducible repeat (first | refine blk_drewN ?_ _ | refine blk_drew ?_ | refine blk_alloc ?_ _)); refine blk_far ?_ NB201_215.out _; (with_reducible repeat (first | refine blk_drewN ?_ _ | refine blk_drew ?_ | refine blk_alloc ?_ _)); refine blk_far ?_ NB201_215.out _; (with_reducible repeat (first | refine blk_drewN ?_ _ | refine blk_drew ?_ | refine blk_alloc ?_ _)); refine blk_far ?_ NB201_215.out _; (with_reducible repeat (first | refine blk_drewN ?_ _ | refine blk_drew ?_ | refine blk_alloc ?_ _)); exact BK201.out⟩, ⟨by (with_reducible repeat (first | refine blk_drewN ?_ _ | refine blk_drew ?_ | refine blk_alloc ?_ _)); refine blk_far ?_ NB205_215.out _; (with_reducible repeat (first | refine blk_drewN ?_ _ | refine blk_drew ?_ | refine blk_alloc ?_ _)); refine blk_far ?_ NB205_215.out _; (with_reducible repeat (first | refine blk_drewN ?_ _ | refine blk_drew ?_ | refine blk_alloc ?_ _)); refine blk_far ?_ NB205_215.out _; (with_reducible repeat (first | refine blk_drewN ?_ _ | refine blk_drew ?_ | refine blk_alloc ?_ _)); exact BK205.out⟩, ⟨by (with_reducible repeat (first | refine blk_drewN ?_ _ | refine blk_drew ?_ | refine blk_alloc ?_ _)); refine blk_put (cs := #[.int .i64 t209, .int .i64 t210, .int .i64 0]) ?_ 2 _ rfl; (with_reducible repeat (first | refine blk_drewN ?_ _ | refine blk_drew ?_ | refine blk_alloc ?_ _)); refine blk_put (cs := #[.int .i64 t209, .int .i64 0, .int .i64 0]) ?_ 1 _ rfl; (with_reducible repeat (first | refine blk_drewN ?_ _ | refine blk_drew ?_ | refine blk_alloc ?_ _)); refine blk_put (cs := #[.int .i64 0, .int .i64 0, .int .i64 0]) ?_ 0 _ rfl; (with_reducible repeat (first | refine blk_drewN ?_ _ | refine blk_drew ?_ | refine blk_alloc ?_ _)); exact BK215.out⟩, ⟨by repeat (first | (with_reducible first | exact HB.out | apply below_alloc | apply pw_below_drewN | apply below_drew1 | refine below_set ?_ GE200.out | refine below_set ?_ GE201.out | refine below_set ?_ GE205.out | refine below_set ?_ GE215.out) | exact HB.out)⟩⟩
            case rest =>
              clear HC12
              try clear c1
              try clear c2
              try clear p2
              try clear q2
              try clear hx2
              try clear qi2
              try clear c3
              try clear c3b0
              try clear c3b1
              try clear c4
              try clear p6
              try clear c9
              try clear c9b0
              try clear c10
              try clear c10b0
              try clear c18
              try clear c19
              try clear p20
              try clear q20
              try clear hx20
              try clear c21
              try clear p21
              try clear q21
              try clear hx21
              try clear qi21
              try clear c28
              try clear c29
              try clear c30
              try clear c32
              try clear c32b0
              try clear c32b1
              try clear c33
              try clear c33b0
              try clear c33b1
              try clear c34
              try clear c34b0
              try clear c34b1
              try clear c37
              try clear c38
              try clear c39
              try clear c41
              try clear c42
              try clear hcz20_0
              try clear hcz20_1
              try clear hcz20_2
              try clear hcz22_0
              try clear hcz22_1
              try clear hcz22_2
              try clear hcz31_0
              try clear hcz31_1
              try clear hcz31_2
              try clear hcz40_0
              try clear hcz40_1
              try clear hcz40_2
              try clear hcz43_0
              try clear hcz43_1
              try clear hcz43_2
              try clear hfz20_0
              try clear hfz20_1
              try clear hfz20_2
              try clear hfz22_0
              try clear hfz22_1
              try clear hfz22_2
              try clear hfz31_0
              try clear hfz31_1
              try clear hfz31_2
              try clear hfz40_0
              try clear hfz40_1
              try clear hfz40_2
              try clear hfz43_0
              try clear hfz43_1
              try clear hfz43_2
              try clear hx202_0
              try clear hx202_1
              try clear hx202_2
              try clear hx203_0
              try clear hx203_1
              try clear hx203_2
              try clear hx204_0
              try clear hx204_1
              try clear hx204_2
              try clear hx216_0
              try clear p2
              try clear p202
              try clear p203
              try clear p204
              try clear p216
              try clear q202
              try clear q203
              try clear q204
              try clear q216
              obtain ⟨kq, x60_11, rfl, HA, HJ11, HO_9, BK200, BK201, BK205, BK215, HB⟩ := hcut
              cases kq with
              | zero => exact absurd HA.out (by simp [sawtoothlaw16_FlightSums.j1])
              | succ kj11 =>
                have H := HA.out
                clear HA
                simp only [sawtoothlaw16_FlightSums.j1] at H
                by_cases c45 : x60_11 = true
                · subst c45
                  have H1 : (some false) = some r := by rw [if_pos rfl] at H; exact H
                  clear H
                  have H := H1
                  clear H1
                  exact absurd ((Option.some.inj H).trans hr_) (by simp)
                · replace c45 := Bool.eq_false_iff.mpr c45
                  subst c45
                  have H1 : (if 0 < (t212.length : Int) then (if (rd t212 0) = 0 then (if (wrap64 ((rd_T39 l0 x6_1).f0)) < 0 then (sawtoothlaw16_FlightSums.j2 kj11 l0 t199 x6_1 true x202000_1 x202001_1 x202002_1 (wrap64 ((rd_T39 l0 x6_1).f0)) (wrap64 ((rd_T39 l0 x6_1).f1)) (wrap64 ((rd_T39 l0 x6_1).f2)) t209 t210 t211) else (sawtoothlaw16_FlightSums.j2 kj11 l0 t199 x6_1 (decide ((wrap64 ((rd_T39 l0 x6_1).f0)) > 2)) x202000_1 x202001_1 x202002_1 (wrap64 ((rd_T39 l0 x6_1).f0)) (wrap64 ((rd_T39 l0 x6_1).f1)) (wrap64 ((rd_T39 l0 x6_1).f2)) t209 t210 t211)) else ((flight_Check.f t209 t210 t211).bind fun t221 => (if t221 = true then (if t209 = x202000_1 then (if t210 = x202001_1 then (if t211 = (wrap64 ((wrap64 (x202000_1 - x202001_1)) - x202002_1)) then (sawtoothlaw16_FlightSums.l0 kj11 l0 t199 (wrap64 (x6_1 + 1)) t209 t210 t211 x202000_1 x202001_1 x202002_1) else (some false)) else (some false)) else (some false)) else (some false)))) else (none)) = some r := by rw [if_neg (show ¬ (false = true) by decide)] at H; exact H
                  clear H
                  have H := H1
                  clear H1
                  by_cases c46 : 0 < (t212.length : Int)
                  · rw [if_pos c46] at H
                    have c46b0 : decide (0 < (t212.length : Int)) = true := decide_eq_true c46
                    have c46b1 : decide (0 < t212.length) = true := decide_eq_true (by omega)
                    clear c46
                    by_cases c47 : (rd t212 0) = 0
                    · rw [if_pos c47] at H
                      have c47b0 : ((rd t212 0) == 0) = true := beq_iff_eq.mpr c47
                      have c47b1 : ((rd t212 0) != 0) = false := bne_eq_false_iff_eq.mpr c47
                      clear c47
                      have HC48 := Aside0.mk H
                      clear H
                      obtain ⟨Ao49, co49, eo49⟩ := Kd.R_slice HO_9.out
                      subst eo49
                      have p217 : 0 ≤ (0 : Int) := (by omega)
                      have q217 : 0 < (t212.length : Int) := of_decide_eq_true (by first | (with_reducible assumption) | assumption)
                      obtain ⟨ad217, e217, hx217_0⟩ := Kd.at_int (Kd.R_reads' HO_9.out).2.2 0 p217 q217
                      cases e217
                      have qi217 : (0 < t212.length) = True := eq_true (by omega)
                      (try rw [show ((0 : Int)).toNat = 0 from rfl] at hx217_0)
                      (try rw [Addr.add_zero'] at hx217_0)
                      replace p217 := eq_true p217
                      replace q217 := eq_true q217
                      go_upto_region 14 with (fail)
                      go_cut [72] (fun v72 wc => ∃ (kq : Nat) (x72_47 : Bool), v72 = .bool x72_47 ∧ Aside0 (sawtoothlaw16_FlightSums.j2 kq l0 t199 x6_1 x72_47 x202000_1 x202001_1 x202002_1 (wrap64 ((rd_T39 l0 x6_1).f0)) (wrap64 ((rd_T39 l0 x6_1).f1)) (wrap64 ((rd_T39 l0 x6_1).f2)) t209 t210 t211 = some r) ∧ Aside0 (kq ≤ kj11) ∧ Aside0 (wc.heap[gb200]? = some (.cells #[.int .i64 x201000_1, .int .i64 x201001_1, .int .i64 x201002_1] 23 (0, 0))) ∧ Aside0 (wc.heap[gb201]? = some (.cells #[.int .i64 x202000_1, .int .i64 x202001_1, .int .i64 x202002_1] 38 (0, 0))) ∧ Aside0 (wc.heap[gb205]? = some (.cells #[.int .i64 (wrap64 ((rd_T39 l0 x6_1).f0)), .int .i64 (wrap64 ((rd_T39 l0 x6_1).f1)), .int .i64 (wrap64 ((rd_T39 l0 x6_1).f2))] 38 (0, 0))) ∧ Aside0 (wc.heap[gb215]? = some (.cells #[.int .i64 t209, .int .i64 t210, .int .i64 t211] 23 (0, 0))) ∧ Aside0 (Below w.heap.size w wc))
                      case first =>
                        have H := HC48.out
                        clear HC48
                        by_cases c50 : (wrap64 ((rd_T39 l0 x6_1).f0)) < 0
                        · rw [if_pos c50] at H
                          have c50b0 : decide ((wrap64 ((rd_T39 l0 x6_1).f0)) < 0) = true := decide_eq_true c50
                          clear c50
                          (first | rw [c50b0] | (simp only [i64_w, i32_w]; rw [c50b0]) | skip)
                          have H' := Aside0.mk H
                          clear H
                          have hnb51 := NB205_200.out
                          have hnc51 := NB200_205.out
                          have hnb52 := NB205_201.out
                          have hnc52 := NB201_205.out
                          have hnb53 := NB205_215.out
                          have hnc53 := NB215_205.out
                          have hcz54_0 : wc.cell? ⟨gb205, 0, none⟩ = some (.int .i64 (wrap64 ((rd_T39 l0 x6_1).f0))) := (blk_cell BK205.out 0).trans rfl
                          have hcz54_1 : wc.cell? ⟨gb205, 1, none⟩ = some (.int .i64 (wrap64 ((rd_T39 l0 x6_1).f1))) := (blk_cell BK205.out 1).trans rfl
                          have hcz54_2 : wc.cell? ⟨gb205, 2, none⟩ = some (.int .i64 (wrap64 ((rd_T39 l0 x6_1).f2))) := (blk_cell BK205.out 2).trans rfl
                          have hfz54_0 := blk_frozen BK205.out 0
                          have hfz54_1 := blk_frozen BK205.out 1
                          have hfz54_2 := blk_frozen BK205.out 2
                          go_wp2
                          go_meet
                          case rel => exact ⟨_, (true), (by first | rfl | (simp; done) | (simp [*]; done)), H', ⟨by have := HK1.out; have := HJ11.out; first | omega | exact Nat.le_refl _⟩, ⟨by (with_reducible repeat (first | refine blk_drewN ?_ _ | refine blk_drew ?_ | refine blk_alloc ?_ _)); exact BK200.out⟩, ⟨by (with_reducible repeat (first | refine blk_drewN ?_ _ | refine blk_drew ?_ | refine blk_alloc ?_ _)); exact BK201.out⟩, ⟨by (with_reducible repeat (first | refine blk_drewN ?_ _ | refine blk_drew ?_ | refine blk_alloc ?_ _)); exact BK205.out⟩, ⟨by (with_reducible repeat (first | refine blk_drewN ?_ _ | refine blk_drew ?_ | refine blk_alloc ?_ _)); exact BK215.out⟩, ⟨by repeat (first | (with_reducible first | exact HB.out | apply below_alloc | apply pw_below_drewN | apply below_drew1 | refine below_set ?_ GE200.out | refine below_set ?_ GE201.out | refine below_set ?_ GE205.out | refine below_set ?_ GE215.out) | exact HB.out)⟩⟩
                        · rw [if_neg c50] at H
                          have c50b0 : decide ((wrap64 ((rd_T39 l0 x6_1).f0)) < 0) = false := decide_eq_false c50
                          clear c50
                          (first | rw [c50b0] | (simp only [i64_w, i32_w]; rw [c50b0]) | skip)
                          have H' := Aside0.mk H
                          clear H
                          have hnb55 := NB205_200.out
                          have hnc55 := NB200_205.out
                          have hnb56 := NB205_201.out
                          have hnc56 := NB201_205.out
                          have hnb57 := NB205_215.out
                          have hnc57 := NB215_205.out
                          have hcz58_0 : wc.cell? ⟨gb205, 0, none⟩ = some (.int .i64 (wrap64 ((rd_T39 l0 x6_1).f0))) := (blk_cell BK205.out 0).trans rfl
                          have hcz58_1 : wc.cell? ⟨gb205, 1, none⟩ = some (.int .i64 (wrap64 ((rd_T39 l0 x6_1).f1))) := (blk_cell BK205.out 1).trans rfl
                          have hcz58_2 : wc.cell? ⟨gb205, 2, none⟩ = some (.int .i64 (wrap64 ((rd_T39 l0 x6_1).f2))) := (blk_cell BK205.out 2).trans rfl
                          have hfz58_0 := blk_frozen BK205.out 0
                          have hfz58_1 := blk_frozen BK205.out 1
                          have hfz58_2 := blk_frozen BK205.out 2
                          go_wp2
                          go_meet
                          case rel => exact ⟨_, (decide ((wrap64 ((rd_T39 l0 x6_1).f0)) > 2)), (by first | rfl | (simp; done) | (simp [*]; done)), H', ⟨by have := HK1.out; have := HJ11.out; first | omega | exact Nat.le_refl _⟩, ⟨by (with_reducible repeat (first | refine blk_drewN ?_ _ | refine blk_drew ?_ | refine blk_alloc ?_ _)); exact BK200.out⟩, ⟨by (with_reducible repeat (first | refine blk_drewN ?_ _ | refine blk_drew ?_ | refine blk_alloc ?_ _)); exact BK201.out⟩, ⟨by (with_reducible repeat (first | refine blk_drewN ?_ _ | refine blk_drew ?_ | refine blk_alloc ?_ _)); exact BK205.out⟩, ⟨by (with_reducible repeat (first | refine blk_drewN ?_ _ | refine blk_drew ?_ | refine blk_alloc ?_ _)); exact BK215.out⟩, ⟨by repeat (first | (with_reducible first | exact HB.out | apply below_alloc | apply pw_below_drewN | apply below_drew1 | refine below_set ?_ GE200.out | refine below_set ?_ GE201.out | refine below_set ?_ GE205.out | refine below_set ?_ GE215.out) | exact HB.out)⟩⟩
                      case rest =>
                        clear HC48
                        try clear c1
                        try clear c2
                        try clear p2
                        try clear q2
                        try clear hx2
                        try clear qi2
                        try clear c3
                        try clear c3b0
                        try clear c3b1
                        try clear c4
                        try clear c5
                        try clear p6
                        try clear c9
                        try clear c9b0
                        try clear c10
                        try clear c10b0
                        try clear c18
                        try clear c19
                        try clear p20
                        try clear q20
                        try clear hx20
                        try clear c21
                        try clear p21
                        try clear q21
                        try clear hx21
                        try clear qi21
                        try clear c28
                        try clear c29
                        try clear c30
                        try clear c32
                        try clear c32b0
                        try clear c32b1
                        try clear c33
                        try clear c33b0
                        try clear c33b1
                        try clear c34
                        try clear c34b0
                        try clear c34b1
                        try clear c37
                        try clear c38
                        try clear c39
                        try clear c41
                        try clear c42
                        try clear c45
                        try clear c46
                        try clear c46b0
                        try clear c46b1
                        try clear c47
                        try clear c47b0
                        try clear c47b1
                        try clear c50
                        try clear c50b0
                        try clear c51
                        try clear c52
                        try clear c53
                        try clear c55
                        try clear c56
                        try clear c57
                        try clear hcz20_0
                        try clear hcz20_1
                        try clear hcz20_2
                        try clear hcz22_0
                        try clear hcz22_1
                        try clear hcz22_2
                        try clear hcz31_0
                        try clear hcz31_1
                        try clear hcz31_2
                        try clear hcz40_0
                        try clear hcz40_1
                        try clear hcz40_2
                        try clear hcz43_0
                        try clear hcz43_1
                        try clear hcz43_2
                        try clear hcz54_0
                        try clear hcz54_1
                        try clear hcz54_2
                        try clear hcz58_0
                        try clear hcz58_1
                        try clear hcz58_2
                        try clear hfz20_0
                        try clear hfz20_1
                        try clear hfz20_2
                        try clear hfz22_0
                        try clear hfz22_1
                        try clear hfz22_2
                        try clear hfz31_0
                        try clear hfz31_1
                        try clear hfz31_2
                        try clear hfz40_0
                        try clear hfz40_1
                        try clear hfz40_2
                        try clear hfz43_0
                        try clear hfz43_1
                        try clear hfz43_2
                        try clear hfz54_0
                        try clear hfz54_1
                        try clear hfz54_2
                        try clear hfz58_0
                        try clear hfz58_1
                        try clear hfz58_2
                        try clear hx202_0
                        try clear hx202_1
                        try clear hx202_2
                        try clear hx203_0
                        try clear hx203_1
                        try clear hx203_2
                        try clear hx204_0
                        try clear hx204_1
                        try clear hx204_2
                        try clear hx216_0
                        try clear hx217_0
                        try clear p2
                        try clear p20
                        try clear p202
                        try clear p203
                        try clear p204
                        try clear p21
                        try clear p216
                        try clear p217
                        try clear p6
                        try clear q2
                        try clear q20
                        try clear q202
                        try clear q203
                        try clear q204
                        try clear q21
                        try clear q216
                        try clear q217
                        obtain ⟨kq, x72_47, rfl, HA, HJ47, BK200, BK201, BK205, BK215, HB⟩ := hcut
                        cases kq with
                        | zero => exact absurd HA.out (by simp [sawtoothlaw16_FlightSums.j2])
                        | succ kj47 =>
                          have H := HA.out
                          clear HA
                          simp only [sawtoothlaw16_FlightSums.j2] at H
                          by_cases c59 : x72_47 = true
                          · subst c59
                            have H1 : (some false) = some r := by rw [if_pos rfl] at H; exact H
                            clear H
                            have H := H1
                            clear H1
                            exact absurd ((Option.some.inj H).trans hr_) (by simp)
                          · replace c59 := Bool.eq_false_iff.mpr c59
                            subst c59
                            have H1 : (if (wrap64 ((rd_T39 l0 x6_1).f0)) = 0 then ((flight_Check.f t209 t210 t211).bind fun t218 => (if t218 = true then (if t209 = (wrap64 (x202000_1 + (wrap64 ((rd_T39 l0 x6_1).f1)))) then (if t210 = x202001_1 then (if t211 = (wrap64 ((wrap64 ((wrap64 (x202000_1 + (wrap64 ((rd_T39 l0 x6_1).f1)))) - x202001_1)) - x202002_1)) then (sawtoothlaw16_FlightSums.l0 kj47 l0 t199 (wrap64 (x6_1 + 1)) t209 t210 t211 (wrap64 (x202000_1 + (wrap64 ((rd_T39 l0 x6_1).f1)))) x202001_1 x202002_1) else (some false)) else (some false)) else (some false)) else (some false))) else (if (wrap64 ((rd_T39 l0 x6_1).f0)) = 1 then ((flight_Check.f t209 t210 t211).bind fun t219 => (if t219 = true then (if t209 = x202000_1 then (if t210 = (wrap64 (x202001_1 + (wrap64 ((rd_T39 l0 x6_1).f1)))) then (if t211 = (wrap64 ((wrap64 (x202000_1 - (wrap64 (x202001_1 + (wrap64 ((rd_T39 l0 x6_1).f1)))))) - x202002_1)) then (sawtoothlaw16_FlightSums.l0 kj47 l0 t199 (wrap64 (x6_1 + 1)) t209 t210 t211 x202000_1 (wrap64 (x202001_1 + (wrap64 ((rd_T39 l0 x6_1).f1)))) x202002_1) else (some false)) else (some false)) else (some false)) else (some false))) else (if (wrap64 ((rd_T39 l0 x6_1).f0)) = 2 then ((flight_Check.f t209 t210 t211).bind fun t220 => (if t220 = true then (if t209 = x202000_1 then (if t210 = x202001_1 then (if t211 = (wrap64 ((wrap64 (x202000_1 - x202001_1)) - (wrap64 (x202002_1 + (wrap64 ((rd_T39 l0 x6_1).f1)))))) then (sawtoothlaw16_FlightSums.l0 kj47 l0 t199 (wrap64 (x6_1 + 1)) t209 t210 t211 x202000_1 x202001_1 (wrap64 (x202002_1 + (wrap64 ((rd_T39 l0 x6_1).f1))))) else (some false)) else (some false)) else (some false)) else (some false))) else (none)))) = some r := by rw [if_neg (show ¬ (false = true) by decide)] at H; exact H
                            clear H
                            have H := H1
                            clear H1
                            by_cases c60 : (wrap64 ((rd_T39 l0 x6_1).f0)) = 0
                            · rw [if_pos c60] at H
                              have c60ix : ∀ (g_ : Nat) (W_ : World), (Instr.indexAt 38 (.pointer (some ⟨g_, 0, none⟩)) (.int .i64 ((wrap64 ((rd_T39 l0 x6_1).f0))))).run Try.prog W_ = .ok (.pointer (some ⟨g_, 0, none⟩)) W_ := fun g_ W_ => by rw [c60]; simp [go_sem, Try.underlying38]
                              have c60b0 : ((wrap64 ((rd_T39 l0 x6_1).f0)) == 0) = true := beq_iff_eq.mpr c60
                              have c60b1 : ((wrap64 ((rd_T39 l0 x6_1).f0)) != 0) = false := bne_eq_false_iff_eq.mpr c60
                              clear c60
                              replace H := Option.bind_eq_some_iff.mp H
                              obtain ⟨t218, A610, H⟩ := H
                              replace H : (if t218 = true then (if t209 = (wrap64 (x202000_1 + (wrap64 ((rd_T39 l0 x6_1).f1)))) then (if t210 = x202001_1 then (if t211 = (wrap64 ((wrap64 ((wrap64 (x202000_1 + (wrap64 ((rd_T39 l0 x6_1).f1)))) - x202001_1)) - x202002_1)) then (sawtoothlaw16_FlightSums.l0 kj47 l0 t199 (wrap64 (x6_1 + 1)) t209 t210 t211 (wrap64 (x202000_1 + (wrap64 ((rd_T39 l0 x6_1).f1)))) x202001_1 x202002_1) else (some false)) else (some false)) else (some false)) else (some false)) = some r := H
                              have A61 := Aside0.mk A610
                              clear A610
                              by_cases c62 : t218 = true
                              · subst c62
                                have H1 : (if t209 = (wrap64 (x202000_1 + (wrap64 ((rd_T39 l0 x6_1).f1)))) then (if t210 = x202001_1 then (if t211 = (wrap64 ((wrap64 ((wrap64 (x202000_1 + (wrap64 ((rd_T39 l0 x6_1).f1)))) - x202001_1)) - x202002_1)) then (sawtoothlaw16_FlightSums.l0 kj47 l0 t199 (wrap64 (x6_1 + 1)) t209 t210 t211 (wrap64 (x202000_1 + (wrap64 ((rd_T39 l0 x6_1).f1)))) x202001_1 x202002_1) else (some false)) else (some false)) else (some false)) = some r := by rw [if_pos rfl] at H; exact H
                                clear H
                                have H := H1
                                clear H1
                                by_cases c63 : t209 = (wrap64 (x202000_1 + (wrap64 ((rd_T39 l0 x6_1).f1))))
                                · rw [if_pos c63] at H
                                  have c63b0 : (t209 == (wrap64 (x202000_1 + (wrap64 ((rd_T39 l0 x6_1).f1))))) = true := beq_iff_eq.mpr c63
                                  have c63b1 : (t209 != (wrap64 (x202000_1 + (wrap64 ((rd_T39 l0 x6_1).f1))))) = false := bne_eq_false_iff_eq.mpr c63
                                  clear c63
                                  by_cases c64 : t210 = x202001_1
                                  · rw [if_pos c64] at H
                                    have c64b0 : (t210 == x202001_1) = true := beq_iff_eq.mpr c64
                                    have c64b1 : (t210 != x202001_1) = false := bne_eq_false_iff_eq.mpr c64
                                    clear c64
                                    by_cases c65 : t211 = (wrap64 ((wrap64 ((wrap64 (x202000_1 + (wrap64 ((rd_T39 l0 x6_1).f1)))) - x202001_1)) - x202002_1))
                                    · rw [if_pos c65] at H
                                      have c65b0 : (t211 == (wrap64 ((wrap64 ((wrap64 (x202000_1 + (wrap64 ((rd_T39 l0 x6_1).f1)))) - x202001_1)) - x202002_1))) = true := beq_iff_eq.mpr c65
                                      have c65b1 : (t211 != (wrap64 ((wrap64 ((wrap64 (x202000_1 + (wrap64 ((rd_T39 l0 x6_1).f1)))) - x202001_1)) - x202002_1))) = false := bne_eq_false_iff_eq.mpr c65
                                      clear c65
                                      have H' := Aside0.mk H
                                      clear H
                                      try go_wp2
                                      have n0_ := Aside0.mk (blk_drew BK200.out)
                                      have n1_ := Aside0.mk (blk_drew BK201.out)
                                      have n2_ := Aside0.mk (blk_drew BK205.out)
                                      have n3_ := Aside0.mk (blk_drew BK215.out)
                                      have n4_ := Aside0.mk (below_drew1 HB.out)
                                      clear BK200
                                      clear BK201
                                      clear BK205
                                      clear BK215
                                      clear HB
                                      have BK200 := n0_
                                      have BK201 := n1_
                                      have BK205 := n2_
                                      have BK215 := n3_
                                      have HB := n4_
                                      clear n0_ n1_ n2_ n3_ n4_
                                      refine start_ (n := 11) (S := fun w' => w'.cell? ⟨gb205, 0, none⟩ = some (.int .i64 (wrap64 ((rd_T39 l0 x6_1).f0))) ∧ w'.cell? ⟨gb205, 1, none⟩ = some (.int .i64 (wrap64 ((rd_T39 l0 x6_1).f1))) ∧ w'.cell? ⟨gb205, 2, none⟩ = some (.int .i64 (wrap64 ((rd_T39 l0 x6_1).f2))) ∧ w'.cell? ⟨gb201, 0, none⟩ = some (.int .i64 x202000_1) ∧ w'.cell? ⟨gb201, 1, none⟩ = some (.int .i64 x202001_1) ∧ w'.cell? ⟨gb201, 2, none⟩ = some (.int .i64 x202002_1)) (ds := [10]) #[false, false, false, false, false, false, false, false, false, false, false] (by kernel_rfl) rfl rfl ⟨(blk_cell BK205.out 0).trans rfl, (blk_cell BK205.out 1).trans rfl, (blk_cell BK205.out 2).trans rfl, (blk_cell BK201.out 0).trans rfl, (blk_cell BK201.out 1).trans rfl, (blk_cell BK201.out 2).trans rfl⟩ (fun hHeld => ?_); refine with_tabW sawtoothlaw16_FlightSums.tab16 sawtoothlaw16_FlightSums.bits16 (fun HT_ HW_ => ?_)
                                      generalize wc.drew = w66 at BK200 BK201 BK205 BK215 HB hHeld ⊢
                                      refine pure_ (i := 0) (N := some 73) (v := ?_) (a' := ?_) #[true, false, false, false, false, false, false, false, false, false, false] rfl rfl (any_of HT_.out (by kernel_rfl)) (fun _ _ _ h => h) (Or.inl ⟨by rfl, ?_⟩) ?_ ?_
                                      rotate_left
                                      · intro w'
                                        go_simp
                                        with_reducible rfl
                                      rotate_left
                                      · simp only [Act.put, List.setIfInBounds_toArray, List.set_cons_zero, List.set_cons_succ, i64_w, i32_w]
                                        rfl
                                      refine pure_ (i := 2) (N := some 75) (v := ?_) (a' := ?_) #[true, false, true, false, false, false, false, false, false, false, false] rfl rfl (any_of HT_.out (by kernel_rfl)) (fun _ _ _ h => h) (Or.inl ⟨by rfl, ?_⟩) ?_ ?_
                                      rotate_left
                                      · intro w'
                                        go_simp
                                        with_reducible rfl
                                      rotate_left
                                      · simp only [Act.put, List.setIfInBounds_toArray, List.set_cons_zero, List.set_cons_succ, i64_w, i32_w]
                                        rfl
                                      refine pure_ (i := 6) (N := some 79) (v := ?_) (a' := ?_) #[true, false, true, false, false, false, true, false, false, false, false] rfl rfl (any_of HT_.out (by kernel_rfl)) (fun _ _ _ h => h) (Or.inl ⟨by rfl, ?_⟩) ?_ ?_
                                      rotate_left
                                      · intro w'
                                        go_simp
                                        with_reducible rfl
                                      rotate_left
                                      · simp only [Act.put, List.setIfInBounds_toArray, List.set_cons_zero, List.set_cons_succ, i64_w, i32_w]
                                        rfl
                                      refine take_ (i := 1) (N := some 74) (v := ?_) (a' := ?_) #[true, true, true, false, false, false, true, false, false, false, false] rfl rfl (take_ofW HT_.out HW_.out (by kernel_rfl)) (fun _ _ _ h => h) (Or.inl ⟨by rfl, ?_⟩) hHeld ?_ ?_
                                      rotate_left
                                      · rintro w' ⟨s0, s1, s2, s3, s4, s5⟩
                                        go_simp
                                        with_reducible rfl
                                      rotate_left
                                      · simp only [Act.put, List.setIfInBounds_toArray, List.set_cons_zero, List.set_cons_succ, i64_w, i32_w]
                                        rfl
                                      refine take_ (i := 3) (N := some 76) (v := ?_) (a' := ?_) #[true, true, true, true, false, false, true, false, false, false, false] rfl rfl (take_ofW HT_.out HW_.out (by kernel_rfl)) (fun _ _ _ h => h) (Or.inl ⟨by rfl, ?_⟩) hHeld ?_ ?_
                                      rotate_left
                                      · rintro w' ⟨s0, s1, s2, s3, s4, s5⟩
                                        go_simp
                                        with_reducible rfl
                                      rotate_left
                                      · simp only [Act.put, List.setIfInBounds_toArray, List.set_cons_zero, List.set_cons_succ, i64_w, i32_w]
                                        rfl
                                      refine pure_ (i := 4) (N := some 77) (v := ?_) (a' := ?_) #[true, true, true, true, true, false, true, false, false, false, false] rfl rfl (any_of HT_.out (by kernel_rfl)) (fun _ _ _ h => h) (Or.inl ⟨by rfl, ?_⟩) ?_ ?_
                                      rotate_left
                                      · intro w'
                                        go_simp
                                        with_reducible rfl
                                      rotate_left
                                      · simp only [Act.put, List.setIfInBounds_toArray, List.set_cons_zero, List.set_cons_succ, i64_w, i32_w]
                                        rfl
                                      refine take_ (i := 5) (N := some 78) (v := ?_) (a' := ?_) #[true, true, true, true, true, true, true, false, false, false, false] rfl rfl (take_ofW HT_.out HW_.out (by kernel_rfl)) (fun _ _ _ h => h) (Or.inl ⟨by rfl, ?_⟩) hHeld ?_ ?_
                                      rotate_left
                                      · rintro w' ⟨s0, s1, s2, s3, s4, s5⟩
                                        go_simp
                                        with_reducible rfl
                                      rotate_left
                                      · simp only [Act.put, List.setIfInBounds_toArray, List.set_cons_zero, List.set_cons_succ, i64_w, i32_w]
                                        rfl
                                      refine take_ (i := 7) (N := some 80) (v := ?_) (a' := ?_) #[true, true, true, true, true, true, true, true, false, false, false] rfl rfl (take_ofW HT_.out HW_.out (by kernel_rfl)) (fun _ _ _ h => h) (Or.inl ⟨by rfl, ?_⟩) hHeld ?_ ?_
                                      rotate_left
                                      · rintro w' ⟨s0, s1, s2, s3, s4, s5⟩
                                        go_simp
                                        with_reducible rfl
                                      rotate_left
                                      · simp only [Act.put, List.setIfInBounds_toArray, List.set_cons_zero, List.set_cons_succ, i64_w, i32_w]
                                        rfl
                                      refine pure_ (i := 8) (N := some 81) (v := ?_) (a' := ?_) #[true, true, true, true, true, true, true, true, true, false, false] rfl rfl (any_of HT_.out (by kernel_rfl)) (fun _ _ _ h => h) (Or.inl ⟨by rfl, ?_⟩) ?_ ?_
                                      rotate_left
                                      · intro w'
                                        go_simp
                                        with_reducible rfl
                                      rotate_left
                                      · simp only [Act.put, List.setIfInBounds_toArray, List.set_cons_zero, List.set_cons_succ, i64_w, i32_w]
                                        rfl
                                      refine pure_ (i := 9) (N := some 82) (v := ?_) (a' := ?_) #[true, true, true, true, true, true, true, true, true, true, false] rfl rfl (any_of HT_.out (by kernel_rfl)) (fun _ _ _ h => h) (Or.inl ⟨by rfl, ?_⟩) ?_ ?_
                                      rotate_left
                                      · intro w'
                                        go_simp
                                        with_reducible rfl
                                      rotate_left
                                      · simp only [Act.put, List.setIfInBounds_toArray, List.set_cons_zero, List.set_cons_succ, i64_w, i32_w]
                                        rfl
                                      refine last_ (i := 10) (N := none) #[true, true, true, true, true, true, true, true, true, true, true] rfl rfl (one_of HT_.out (by kernel_rfl)) (by decide) (fun K hK => ?_)
                                      have hs67 : w66.cell? ⟨gb201, 0, none⟩ = some (.int .i64 x202000_1) := (blk_cell BK201.out 0).trans rfl
                                      have hfs67 := blk_frozen BK201.out 0
                                      have hns67_0 := NB200_201.out
                                      have hns67_2 := NB205_201.out
                                      have hns67_3 := NB215_201.out
                                      have hms67_0 := NB201_200.out
                                      have hms67_2 := NB201_205.out
                                      have hms67_3 := NB201_215.out
                                      refine skip_ (w1 := ?_) (by rfl) rfl ?_ ?_
                                      rotate_left
                                      · go_simp
                                        rfl
                                      refine hK.out _ _ ?_
                                      clear hK K
                                      refine done_ (done_of HT_.out (by kernel_rfl)) ?_
                                      have hnb68 := NB215_200.out
                                      have hnc68 := NB200_215.out
                                      have hnb69 := NB215_201.out
                                      have hnc69 := NB201_215.out
                                      have hnb70 := NB215_205.out
                                      have hnc70 := NB205_215.out
                                      have hcz71_0 : w66.cell? ⟨gb215, 0, none⟩ = some (.int .i64 t209) := (blk_cell BK215.out 0).trans rfl
                                      have hcz71_1 : w66.cell? ⟨gb215, 1, none⟩ = some (.int .i64 t210) := (blk_cell BK215.out 1).trans rfl
                                      have hcz71_2 : w66.cell? ⟨gb215, 2, none⟩ = some (.int .i64 t211) := (blk_cell BK215.out 2).trans rfl
                                      have hfz71_0 := blk_frozen BK215.out 0
                                      have hfz71_1 := blk_frozen BK215.out 1
                                      have hfz71_2 := blk_frozen BK215.out 2
                                      have hnb72 := NB200_201.out
                                      have hnc72 := NB201_200.out
                                      have hnb73 := NB200_205.out
                                      have hnc73 := NB205_200.out
                                      have hcz74_0 : w66.cell? ⟨gb200, 0, none⟩ = some (.int .i64 x201000_1) := (blk_cell BK200.out 0).trans rfl
                                      have hcz74_1 : w66.cell? ⟨gb200, 1, none⟩ = some (.int .i64 x201001_1) := (blk_cell BK200.out 1).trans rfl
                                      have hcz74_2 : w66.cell? ⟨gb200, 2, none⟩ = some (.int .i64 x201002_1) := (blk_cell BK200.out 2).trans rfl
                                      have hfz74_0 := blk_frozen BK200.out 0
                                      have hfz74_1 := blk_frozen BK200.out 1
                                      have hfz74_2 := blk_frozen BK200.out 2
                                      try go_wp2_with (first | ((with_reducible refine gate_callee (f := 18) rfl ?_); refine goesL_ (some 85) rfl rfl Try.func18 (by kernel_rfl) rfl #[.agg #[.int .i64 t209, .int .i64 t210, .int .i64 t211]] rfl (by (try simp only [List.map_toArray, List.map_cons, List.map_nil]); first | done | rfl | (simp only [List.length_drop, List.length_take]; rfl)) ?_; (with_reducible refine (flight_Check.calls t209 t210 t211 true _ A61.out).mono ?_); rintro e w75 ⟨rfl, hb⟩; refine ⟨_, rfl, ?_⟩; have n0_ := Aside0.mk (blk_below (g := gb200) (o := .cells #[.int .i64 t209, .int .i64 t210, .int .i64 t211] 23 (0, 0)) (by (with_reducible repeat (first | refine blk_drewN ?_ _ | refine blk_drew ?_ | refine blk_alloc ?_ _)); refine blk_put (cs := #[.int .i64 t209, .int .i64 t210, .int .i64 x201002_1]) ?_ 2 _ rfl; (with_reducible repeat (first | refine blk_drewN ?_ _ | refine blk_drew ?_ | refine blk_alloc ?_ _)); refine blk_put (cs := #[.int .i64 t209, .int .i64 x201001_1, .int .i64 x201002_1]) ?_ 1 _ rfl; (with_reducible repeat (first | refine blk_drewN ?_ _ | refine blk_drew ?_ | refine blk_alloc ?_ _)); refine blk_put (cs := #[.int .i64 x201000_1, .int .i64 x201001_1, .int .i64 x201002_1]) ?_ 0 _ rfl; (with_reducible repeat (first | refine blk_drewN ?_ _ | refine blk_drew ?_ | refine blk_alloc ?_ _)); refine blk_far ?_ NB200_201.out _; (with_reducible repeat (first | refine blk_drewN ?_ _ | refine blk_drew ?_ | refine blk_alloc ?_ _)); exact BK200.out) hb); have n1_ := Aside0.mk (blk_below (g := gb201) (o := .cells #[.int .i64 (wrap64 (x202000_1 + (wrap64 ((rd_T39 l0 x6_1).f1)))), .int .i64 x202001_1, .int .i64 x202002_1] 38 (0, 0)) (by (with_reducible repeat (first | refine blk_drewN ?_ _ | refine blk_drew ?_ | refine blk_alloc ?_ _)); refine blk_far ?_ NB201_200.out _; (with_reducible repeat (first | refine blk_drewN ?_ _ | refine blk_drew ?_ | refine blk_alloc ?_ _)); refine blk_far ?_ NB201_200.out _; (with_reducible repeat (first | refine blk_drewN ?_ _ | refine blk_drew ?_ | refine blk_alloc ?_ _)); refine blk_far ?_ NB201_200.out _; (with_reducible repeat (first | refine blk_drewN ?_ _ | refine blk_drew ?_ | refine blk_alloc ?_ _)); refine blk_put (cs := #[.int .i64 x202000_1, .int .i64 x202001_1, .int .i64 x202002_1]) ?_ 0 _ rfl; (with_reducible repeat (first | refine blk_drewN ?_ _ | refine blk_drew ?_ | refine blk_alloc ?_ _)); exact BK201.out) hb); have n2_ := Aside0.mk (blk_below (g := gb205) (o := .cells #[.int .i64 (wrap64 ((rd_T39 l0 x6_1).f0)), .int .i64 (wrap64 ((rd_T39 l0 x6_1).f1)), .int .i64 (wrap64 ((rd_T39 l0 x6_1).f2))] 38 (0, 0)) (by (with_reducible repeat (first | refine blk_drewN ?_ _ | refine blk_drew ?_ | refine blk_alloc ?_ _)); refine blk_far ?_ NB205_200.out _; (with_reducible repeat (first | refine blk_drewN ?_ _ | refine blk_drew ?_ | refine blk_alloc ?_ _)); refine blk_far ?_ NB205_200.out _; (with_reducible repeat (first | refine blk_drewN ?_ _ | refine blk_drew ?_ | refine blk_alloc ?_ _)); refine blk_far ?_ NB205_200.out _; (with_reducible repeat (first | refine blk_drewN ?_ _ | refine blk_drew ?_ | refine blk_alloc ?_ _)); refine blk_far ?_ NB205_201.out _; (with_reducible repeat (first | refine blk_drewN ?_ _ | refine blk_drew ?_ | refine blk_alloc ?_ _)); exact BK205.out) hb); have n3_ := Aside0.mk (blk_below (g := gb215) (o := .cells #[.int .i64 t209, .int .i64 t210, .int .i64 t211] 23 (0, 0)) (by (with_reducible repeat (first | refine blk_drewN ?_ _ | refine blk_drew ?_ | refine blk_alloc ?_ _)); refine blk_far ?_ NB215_200.out _; (with_reducible repeat (first | refine blk_drewN ?_ _ | refine blk_drew ?_ | refine blk_alloc ?_ _)); refine blk_far ?_ NB215_200.out _; (with_reducible repeat (first | refine blk_drewN ?_ _ | refine blk_drew ?_ | refine blk_alloc ?_ _)); refine blk_far ?_ NB215_200.out _; (with_reducible repeat (first | refine blk_drewN ?_ _ | refine blk_drew ?_ | refine blk_alloc ?_ _)); refine blk_far ?_ NB215_201.out _; (with_reducible repeat (first | refine blk_drewN ?_ _ | refine blk_drew ?_ | refine blk_alloc ?_ _)); exact BK215.out) hb); have n4_ := Aside0.mk (below_step (by repeat (first | (with_reducible first | exact HB.out | apply below_alloc | apply pw_below_drewN | apply below_drew1 | refine below_set ?_ GE200.out | refine below_set ?_ GE201.out | refine below_set ?_ GE205.out | refine below_set ?_ GE215.out) | exact HB.out)) hb); clear BK200; clear BK201; clear BK205; clear BK215; clear HB; have BK200 := n0_; have BK201 := n1_; have BK205 := n2_; have BK215 := n3_; have HB := n4_; clear n0_ n1_ n2_ n3_ n4_; (try clear hb); (try clear hb2); (try clear hk); (try clear hi); have hcz76_0 : w75.cell? ⟨gb200, 0, none⟩ = some (.int .i64 t209) := (blk_cell BK200.out 0).trans rfl; have hcz76_1 : w75.cell? ⟨gb200, 1, none⟩ = some (.int .i64 t210) := (blk_cell BK200.out 1).trans rfl; have hcz76_2 : w75.cell? ⟨gb200, 2, none⟩ = some (.int .i64 t211) := (blk_cell BK200.out 2).trans rfl; have hfz76_0 := blk_frozen BK200.out 0; have hfz76_1 := blk_frozen BK200.out 1; have hfz76_2 := blk_frozen BK200.out 2; have hnb77 := NB201_205.out; have hnc77 := NB205_201.out; have hcz78_0 : w75.cell? ⟨gb201, 0, none⟩ = some (.int .i64 (wrap64 (x202000_1 + (wrap64 ((rd_T39 l0 x6_1).f1))))) := (blk_cell BK201.out 0).trans rfl; have hcz78_1 : w75.cell? ⟨gb201, 1, none⟩ = some (.int .i64 x202001_1) := (blk_cell BK201.out 1).trans rfl; have hcz78_2 : w75.cell? ⟨gb201, 2, none⟩ = some (.int .i64 x202002_1) := (blk_cell BK201.out 2).trans rfl; have hfz78_0 := blk_frozen BK201.out 0; have hfz78_1 := blk_frozen BK201.out 1; have hfz78_2 := blk_frozen BK201.out 2))
                                      go_roundg kj47
                                      case measure => have := HK1.out; have := HJ11.out; have := HJ47.out; omega
                                      case rel => exact ⟨(wrap64 (x6_1 + 1)), (t209), (t210), (t211), (wrap64 (x202000_1 + (wrap64 ((rd_T39 l0 x6_1).f1)))), (x202001_1), (x202002_1), (by first | rfl | (simp; done) | (simp [*]; done)), H', ⟨by have := HK1.out; have := HJ11.out; have := HJ47.out; omega⟩, ⟨by (with_reducible repeat (first | refine blk_drewN ?_ _ | refine blk_drew ?_ | refine blk_alloc ?_ _)); exact BK200.out⟩, ⟨by (with_reducible repeat (first | refine blk_drewN ?_ _ | refine blk_drew ?_ | refine blk_alloc ?_ _)); exact BK201.out⟩, ⟨by repeat (first | (with_reducible first | exact HB.out | apply below_alloc | apply pw_below_drewN | apply below_drew1 | refine below_set ?_ GE200.out | refine below_set ?_ GE201.out | refine below_set ?_ GE205.out | refine below_set ?_ GE215.out) | exact HB.out)⟩⟩
                                    · rw [if_neg c65] at H
                                      have c65b0 : (t211 == (wrap64 ((wrap64 ((wrap64 (x202000_1 + (wrap64 ((rd_T39 l0 x6_1).f1)))) - x202001_1)) - x202002_1))) = false := beq_eq_false_iff_ne.mpr c65
                                      have c65b1 : (t211 != (wrap64 ((wrap64 ((wrap64 (x202000_1 + (wrap64 ((rd_T39 l0 x6_1).f1)))) - x202001_1)) - x202002_1))) = true := bne_iff_ne.mpr c65
                                      exact absurd ((Option.some.inj H).trans hr_) (by simp)
                                  · rw [if_neg c64] at H
                                    have c64b0 : (t210 == x202001_1) = false := beq_eq_false_iff_ne.mpr c64
                                    have c64b1 : (t210 != x202001_1) = true := bne_iff_ne.mpr c64
                                    exact absurd ((Option.some.inj H).trans hr_) (by simp)
                                · rw [if_neg c63] at H
                                  have c63b0 : (t209 == (wrap64 (x202000_1 + (wrap64 ((rd_T39 l0 x6_1).f1))))) = false := beq_eq_false_iff_ne.mpr c63
                                  have c63b1 : (t209 != (wrap64 (x202000_1 + (wrap64 ((rd_T39 l0 x6_1).f1))))) = true := bne_iff_ne.mpr c63
                                  exact absurd ((Option.some.inj H).trans hr_) (by simp)
                              · replace c62 := Bool.eq_false_iff.mpr c62
                                subst c62
                                have H1 : (some false) = some r := by rw [if_neg (show ¬ (false = true) by decide)] at H; exact H
                                clear H
                                have H := H1
                                clear H1
                                exact absurd ((Option.some.inj H).trans hr_) (by simp)
                            · rw [if_neg c60] at H
                              have c60b0 : ((wrap64 ((rd_T39 l0 x6_1).f0)) == 0) = false := beq_eq_false_iff_ne.mpr c60
                              have c60b1 : ((wrap64 ((rd_T39 l0 x6_1).f0)) != 0) = true := bne_iff_ne.mpr c60
                              by_cases c79 : (wrap64 ((rd_T39 l0 x6_1).f0)) = 1
                              · rw [if_pos c79] at H
                                have c79ix : ∀ (g_ : Nat) (W_ : World), (Instr.indexAt 38 (.pointer (some ⟨g_, 0, none⟩)) (.int .i64 ((wrap64 ((rd_T39 l0 x6_1).f0))))).run Try.prog W_ = .ok (.pointer (some ⟨g_, 1, none⟩)) W_ := fun g_ W_ => by rw [c79]; simp [go_sem, Try.underlying38]
                                have c79b0 : ((wrap64 ((rd_T39 l0 x6_1).f0)) == 1) = true := beq_iff_eq.mpr c79
                                have c79b1 : ((wrap64 ((rd_T39 l0 x6_1).f0)) != 1) = false := bne_eq_false_iff_eq.mpr c79
                                clear c79
                                replace H := Option.bind_eq_some_iff.mp H
                                obtain ⟨t219, A800, H⟩ := H
                                replace H : (if t219 = true then (if t209 = x202000_1 then (if t210 = (wrap64 (x202001_1 + (wrap64 ((rd_T39 l0 x6_1).f1)))) then (if t211 = (wrap64 ((wrap64 (x202000_1 - (wrap64 (x202001_1 + (wrap64 ((rd_T39 l0 x6_1).f1)))))) - x202002_1)) then (sawtoothlaw16_FlightSums.l0 kj47 l0 t199 (wrap64 (x6_1 + 1)) t209 t210 t211 x202000_1 (wrap64 (x202001_1 + (wrap64 ((rd_T39 l0 x6_1).f1)))) x202002_1) else (some false)) else (some false)) else (some false)) else (some false)) = some r := H
                                have A80 := Aside0.mk A800
                                clear A800
                                by_cases c81 : t219 = true
                                · subst c81
                                  have H1 : (if t209 = x202000_1 then (if t210 = (wrap64 (x202001_1 + (wrap64 ((rd_T39 l0 x6_1).f1)))) then (if t211 = (wrap64 ((wrap64 (x202000_1 - (wrap64 (x202001_1 + (wrap64 ((rd_T39 l0 x6_1).f1)))))) - x202002_1)) then (sawtoothlaw16_FlightSums.l0 kj47 l0 t199 (wrap64 (x6_1 + 1)) t209 t210 t211 x202000_1 (wrap64 (x202001_1 + (wrap64 ((rd_T39 l0 x6_1).f1)))) x202002_1) else (some false)) else (some false)) else (some false)) = some r := by rw [if_pos rfl] at H; exact H
                                  clear H
                                  have H := H1
                                  clear H1
                                  by_cases c82 : t209 = x202000_1
                                  · rw [if_pos c82] at H
                                    have c82b0 : (t209 == x202000_1) = true := beq_iff_eq.mpr c82
                                    have c82b1 : (t209 != x202000_1) = false := bne_eq_false_iff_eq.mpr c82
                                    clear c82
                                    by_cases c83 : t210 = (wrap64 (x202001_1 + (wrap64 ((rd_T39 l0 x6_1).f1))))
                                    · rw [if_pos c83] at H
                                      have c83b0 : (t210 == (wrap64 (x202001_1 + (wrap64 ((rd_T39 l0 x6_1).f1))))) = true := beq_iff_eq.mpr c83
                                      have c83b1 : (t210 != (wrap64 (x202001_1 + (wrap64 ((rd_T39 l0 x6_1).f1))))) = false := bne_eq_false_iff_eq.mpr c83
                                      clear c83
                                      by_cases c84 : t211 = (wrap64 ((wrap64 (x202000_1 - (wrap64 (x202001_1 + (wrap64 ((rd_T39 l0 x6_1).f1)))))) - x202002_1))
                                      · rw [if_pos c84] at H
                                        have c84b0 : (t211 == (wrap64 ((wrap64 (x202000_1 - (wrap64 (x202001_1 + (wrap64 ((rd_T39 l0 x6_1).f1)))))) - x202002_1))) = true := beq_iff_eq.mpr c84
                                        have c84b1 : (t211 != (wrap64 ((wrap64 (x202000_1 - (wrap64 (x202001_1 + (wrap64 ((rd_T39 l0 x6_1).f1)))))) - x202002_1))) = false := bne_eq_false_iff_eq.mpr c84
                                        clear c84
                                        have H' := Aside0.mk H
                                        clear H
                                        try go_wp2
                                        have n0_ := Aside0.mk (blk_drew BK200.out)
                                        have n1_ := Aside0.mk (blk_drew BK201.out)
                                        have n2_ := Aside0.mk (blk_drew BK205.out)
                                        have n3_ := Aside0.mk (blk_drew BK215.out)
                                        have n4_ := Aside0.mk (below_drew1 HB.out)
                                        clear BK200
                                        clear BK201
                                        clear BK205
                                        clear BK215
                                        clear HB
                                        have BK200 := n0_
                                        have BK201 := n1_
                                        have BK205 := n2_
                                        have BK215 := n3_
                                        have HB := n4_
                                        clear n0_ n1_ n2_ n3_ n4_
                                        refine start_ (n := 11) (S := fun w' => w'.cell? ⟨gb205, 0, none⟩ = some (.int .i64 (wrap64 ((rd_T39 l0 x6_1).f0))) ∧ w'.cell? ⟨gb205, 1, none⟩ = some (.int .i64 (wrap64 ((rd_T39 l0 x6_1).f1))) ∧ w'.cell? ⟨gb205, 2, none⟩ = some (.int .i64 (wrap64 ((rd_T39 l0 x6_1).f2))) ∧ w'.cell? ⟨gb201, 0, none⟩ = some (.int .i64 x202000_1) ∧ w'.cell? ⟨gb201, 1, none⟩ = some (.int .i64 x202001_1) ∧ w'.cell? ⟨gb201, 2, none⟩ = some (.int .i64 x202002_1)) (ds := [10]) #[false, false, false, false, false, false, false, false, false, false, false] (by kernel_rfl) rfl rfl ⟨(blk_cell BK205.out 0).trans rfl, (blk_cell BK205.out 1).trans rfl, (blk_cell BK205.out 2).trans rfl, (blk_cell BK201.out 0).trans rfl, (blk_cell BK201.out 1).trans rfl, (blk_cell BK201.out 2).trans rfl⟩ (fun hHeld => ?_); refine with_tabW sawtoothlaw16_FlightSums.tab16 sawtoothlaw16_FlightSums.bits16 (fun HT_ HW_ => ?_)
                                        generalize wc.drew = w85 at BK200 BK201 BK205 BK215 HB hHeld ⊢
                                        refine pure_ (i := 0) (N := some 73) (v := ?_) (a' := ?_) #[true, false, false, false, false, false, false, false, false, false, false] rfl rfl (any_of HT_.out (by kernel_rfl)) (fun _ _ _ h => h) (Or.inl ⟨by rfl, ?_⟩) ?_ ?_
                                        rotate_left
                                        · intro w'
                                          go_simp
                                          with_reducible rfl
                                        rotate_left
                                        · simp only [Act.put, List.setIfInBounds_toArray, List.set_cons_zero, List.set_cons_succ, i64_w, i32_w]
                                          rfl
                                        refine pure_ (i := 2) (N := some 75) (v := ?_) (a' := ?_) #[true, false, true, false, false, false, false, false, false, false, false] rfl rfl (any_of HT_.out (by kernel_rfl)) (fun _ _ _ h => h) (Or.inl ⟨by rfl, ?_⟩) ?_ ?_
                                        rotate_left
                                        · intro w'
                                          go_simp
                                          with_reducible rfl
                                        rotate_left
                                        · simp only [Act.put, List.setIfInBounds_toArray, List.set_cons_zero, List.set_cons_succ, i64_w, i32_w]
                                          rfl
                                        refine pure_ (i := 6) (N := some 79) (v := ?_) (a' := ?_) #[true, false, true, false, false, false, true, false, false, false, false] rfl rfl (any_of HT_.out (by kernel_rfl)) (fun _ _ _ h => h) (Or.inl ⟨by rfl, ?_⟩) ?_ ?_
                                        rotate_left
                                        · intro w'
                                          go_simp
                                          with_reducible rfl
                                        rotate_left
                                        · simp only [Act.put, List.setIfInBounds_toArray, List.set_cons_zero, List.set_cons_succ, i64_w, i32_w]
                                          rfl
                                        refine take_ (i := 1) (N := some 74) (v := ?_) (a' := ?_) #[true, true, true, false, false, false, true, false, false, false, false] rfl rfl (take_ofW HT_.out HW_.out (by kernel_rfl)) (fun _ _ _ h => h) (Or.inl ⟨by rfl, ?_⟩) hHeld ?_ ?_
                                        rotate_left
                                        · rintro w' ⟨s0, s1, s2, s3, s4, s5⟩
                                          go_simp
                                          with_reducible rfl
                                        rotate_left
                                        · simp only [Act.put, List.setIfInBounds_toArray, List.set_cons_zero, List.set_cons_succ, i64_w, i32_w]
                                          rfl
                                        refine take_ (i := 3) (N := some 76) (v := ?_) (a' := ?_) #[true, true, true, true, false, false, true, false, false, false, false] rfl rfl (take_ofW HT_.out HW_.out (by kernel_rfl)) (fun _ _ _ h => h) (Or.inl ⟨by rfl, ?_⟩) hHeld ?_ ?_
                                        rotate_left
                                        · rintro w' ⟨s0, s1, s2, s3, s4, s5⟩
                                          go_simp
                                          with_reducible rfl
                                        rotate_left
                                        · simp only [Act.put, List.setIfInBounds_toArray, List.set_cons_zero, List.set_cons_succ, i64_w, i32_w]
                                          rfl
                                        refine pure_ (i := 4) (N := some 77) (v := ?_) (a' := ?_) #[true, true, true, true, true, false, true, false, false, false, false] rfl rfl (any_of HT_.out (by kernel_rfl)) (fun _ _ _ h => h) (Or.inl ⟨by rfl, ?_⟩) ?_ ?_
                                        rotate_left
                                        · intro w'
                                          go_simp
                                          with_reducible rfl
                                        rotate_left
                                        · simp only [Act.put, List.setIfInBounds_toArray, List.set_cons_zero, List.set_cons_succ, i64_w, i32_w]
                                          rfl
                                        refine take_ (i := 5) (N := some 78) (v := ?_) (a' := ?_) #[true, true, true, true, true, true, true, false, false, false, false] rfl rfl (take_ofW HT_.out HW_.out (by kernel_rfl)) (fun _ _ _ h => h) (Or.inl ⟨by rfl, ?_⟩) hHeld ?_ ?_
                                        rotate_left
                                        · rintro w' ⟨s0, s1, s2, s3, s4, s5⟩
                                          go_simp
                                          with_reducible rfl
                                        rotate_left
                                        · simp only [Act.put, List.setIfInBounds_toArray, List.set_cons_zero, List.set_cons_succ, i64_w, i32_w]
                                          rfl
                                        refine take_ (i := 7) (N := some 80) (v := ?_) (a' := ?_) #[true, true, true, true, true, true, true, true, false, false, false] rfl rfl (take_ofW HT_.out HW_.out (by kernel_rfl)) (fun _ _ _ h => h) (Or.inl ⟨by rfl, ?_⟩) hHeld ?_ ?_
                                        rotate_left
                                        · rintro w' ⟨s0, s1, s2, s3, s4, s5⟩
                                          go_simp
                                          with_reducible rfl
                                        rotate_left
                                        · simp only [Act.put, List.setIfInBounds_toArray, List.set_cons_zero, List.set_cons_succ, i64_w, i32_w]
                                          rfl
                                        refine pure_ (i := 8) (N := some 81) (v := ?_) (a' := ?_) #[true, true, true, true, true, true, true, true, true, false, false] rfl rfl (any_of HT_.out (by kernel_rfl)) (fun _ _ _ h => h) (Or.inl ⟨by rfl, ?_⟩) ?_ ?_
                                        rotate_left
                                        · intro w'
                                          go_simp
                                          with_reducible rfl
                                        rotate_left
                                        · simp only [Act.put, List.setIfInBounds_toArray, List.set_cons_zero, List.set_cons_succ, i64_w, i32_w]
                                          rfl
                                        refine pure_ (i := 9) (N := some 82) (v := ?_) (a' := ?_) #[true, true, true, true, true, true, true, true, true, true, false] rfl rfl (any_of HT_.out (by kernel_rfl)) (fun _ _ _ h => h) (Or.inl ⟨by rfl, ?_⟩) ?_ ?_
                                        rotate_left
                                        · intro w'
                                          go_simp
                                          with_reducible rfl
                                        rotate_left
                                        · simp only [Act.put, List.setIfInBounds_toArray, List.set_cons_zero, List.set_cons_succ, i64_w, i32_w]
                                          rfl
                                        refine last_ (i := 10) (N := none) #[true, true, true, true, true, true, true, true, true, true, true] rfl rfl (one_of HT_.out (by kernel_rfl)) (by decide) (fun K hK => ?_)
                                        have hs86 : w85.cell? ⟨gb201, 1, none⟩ = some (.int .i64 x202001_1) := (blk_cell BK201.out 1).trans rfl
                                        have hfs86 := blk_frozen BK201.out 1
                                        have hns86_0 := NB200_201.out
                                        have hns86_2 := NB205_201.out
                                        have hns86_3 := NB215_201.out
                                        have hms86_0 := NB201_200.out
                                        have hms86_2 := NB201_205.out
                                        have hms86_3 := NB201_215.out
                                        refine skip_ (w1 := ?_) (by rfl) rfl ?_ ?_
                                        rotate_left
                                        · go_simp
                                          rfl
                                        refine hK.out _ _ ?_
                                        clear hK K
                                        refine done_ (done_of HT_.out (by kernel_rfl)) ?_
                                        have hnb87 := NB215_200.out
                                        have hnc87 := NB200_215.out
                                        have hnb88 := NB215_201.out
                                        have hnc88 := NB201_215.out
                                        have hnb89 := NB215_205.out
                                        have hnc89 := NB205_215.out
                                        have hcz90_0 : w85.cell? ⟨gb215, 0, none⟩ = some (.int .i64 t209) := (blk_cell BK215.out 0).trans rfl
                                        have hcz90_1 : w85.cell? ⟨gb215, 1, none⟩ = some (.int .i64 t210) := (blk_cell BK215.out 1).trans rfl
                                        have hcz90_2 : w85.cell? ⟨gb215, 2, none⟩ = some (.int .i64 t211) := (blk_cell BK215.out 2).trans rfl
                                        have hfz90_0 := blk_frozen BK215.out 0
                                        have hfz90_1 := blk_frozen BK215.out 1
                                        have hfz90_2 := blk_frozen BK215.out 2
                                        have hnb91 := NB200_201.out
                                        have hnc91 := NB201_200.out
                                        have hnb92 := NB200_205.out
                                        have hnc92 := NB205_200.out
                                        have hcz93_0 : w85.cell? ⟨gb200, 0, none⟩ = some (.int .i64 x201000_1) := (blk_cell BK200.out 0).trans rfl
                                        have hcz93_1 : w85.cell? ⟨gb200, 1, none⟩ = some (.int .i64 x201001_1) := (blk_cell BK200.out 1).trans rfl
                                        have hcz93_2 : w85.cell? ⟨gb200, 2, none⟩ = some (.int .i64 x201002_1) := (blk_cell BK200.out 2).trans rfl
                                        have hfz93_0 := blk_frozen BK200.out 0
                                        have hfz93_1 := blk_frozen BK200.out 1
                                        have hfz93_2 := blk_frozen BK200.out 2
                                        try go_wp2_with (first | ((with_reducible refine gate_callee (f := 18) rfl ?_); refine goesL_ (some 85) rfl rfl Try.func18 (by kernel_rfl) rfl #[.agg #[.int .i64 t209, .int .i64 t210, .int .i64 t211]] rfl (by (try simp only [List.map_toArray, List.map_cons, List.map_nil]); first | done | rfl | (simp only [List.length_drop, List.length_take]; rfl)) ?_; (with_reducible refine (flight_Check.calls t209 t210 t211 true _ A80.out).mono ?_); rintro e w94 ⟨rfl, hb⟩; refine ⟨_, rfl, ?_⟩; have n0_ := Aside0.mk (blk_below (g := gb200) (o := .cells #[.int .i64 t209, .int .i64 t210, .int .i64 t211] 23 (0, 0)) (by (with_reducible repeat (first | refine blk_drewN ?_ _ | refine blk_drew ?_ | refine blk_alloc ?_ _)); refine blk_put (cs := #[.int .i64 t209, .int .i64 t210, .int .i64 x201002_1]) ?_ 2 _ rfl; (with_reducible repeat (first | refine blk_drewN ?_ _ | refine blk_drew ?_ | refine blk_alloc ?_ _)); refine blk_put (cs := #[.int .i64 t209, .int .i64 x201001_1, .int .i64 x201002_1]) ?_ 1 _ rfl; (with_reducible repeat (first | refine blk_drewN ?_ _ | refine blk_drew ?_ | refine blk_alloc ?_ _)); refine blk_put (cs := #[.int .i64 x201000_1, .int .i64 x201001_1, .int .i64 x201002_1]) ?_ 0 _ rfl; (with_reducible repeat (first | refine blk_drewN ?_ _ | refine blk_drew ?_ | refine blk_alloc ?_ _)); refine blk_far ?_ NB200_201.out _; (with_reducible repeat (first | refine blk_drewN ?_ _ | refine blk_drew ?_ | refine blk_alloc ?_ _)); exact BK200.out) hb); have n1_ := Aside0.mk (blk_below (g := gb201) (o := .cells #[.int .i64 x202000_1, .int .i64 (wrap64 (x202001_1 + (wrap64 ((rd_T39 l0 x6_1).f1)))), .int .i64 x202002_1] 38 (0, 0)) (by (with_reducible repeat (first | refine blk_drewN ?_ _ | refine blk_drew ?_ | refine blk_alloc ?_ _)); refine blk_far ?_ NB201_200.out _; (with_reducible repeat (first | refine blk_drewN ?_ _ | refine blk_drew ?_ | refine blk_alloc ?_ _)); refine blk_far ?_ NB201_200.out _; (with_reducible repeat (first | refine blk_drewN ?_ _ | refine blk_drew ?_ | refine blk_alloc ?_ _)); refine blk_far ?_ NB201_200.out _; (with_reducible repeat (first | refine blk_drewN ?_ _ | refine blk_drew ?_ | refine blk_alloc ?_ _)); refine blk_put (cs := #[.int .i64 x202000_1, .int .i64 x202001_1, .int .i64 x202002_1]) ?_ 1 _ rfl; (with_reducible repeat (first | refine blk_drewN ?_ _ | refine blk_drew ?_ | refine blk_alloc ?_ _)); exact BK201.out) hb); have n2_ := Aside0.mk (blk_below (g := gb205) (o := .cells #[.int .i64 (wrap64 ((rd_T39 l0 x6_1).f0)), .int .i64 (wrap64 ((rd_T39 l0 x6_1).f1)), .int .i64 (wrap64 ((rd_T39 l0 x6_1).f2))] 38 (0, 0)) (by (with_reducible repeat (first | refine blk_drewN ?_ _ | refine blk_drew ?_ | refine blk_alloc ?_ _)); refine blk_far ?_ NB205_200.out _; (with_reducible repeat (first | refine blk_drewN ?_ _ | refine blk_drew ?_ | refine blk_alloc ?_ _)); refine blk_far ?_ NB205_200.out _; (with_reducible repeat (first | refine blk_drewN ?_ _ | refine blk_drew ?_ | refine blk_alloc ?_ _)); refine blk_far ?_ NB205_200.out _; (with_reducible repeat (first | refine blk_drewN ?_ _ | refine blk_drew ?_ | refine blk_alloc ?_ _)); refine blk_far ?_ NB205_201.out _; (with_reducible repeat (first | refine blk_drewN ?_ _ | refine blk_drew ?_ | refine blk_alloc ?_ _)); exact BK205.out) hb); have n3_ := Aside0.mk (blk_below (g := gb215) (o := .cells #[.int .i64 t209, .int .i64 t210, .int .i64 t211] 23 (0, 0)) (by (with_reducible repeat (first | refine blk_drewN ?_ _ | refine blk_drew ?_ | refine blk_alloc ?_ _)); refine blk_far ?_ NB215_200.out _; (with_reducible repeat (first | refine blk_drewN ?_ _ | refine blk_drew ?_ | refine blk_alloc ?_ _)); refine blk_far ?_ NB215_200.out _; (with_reducible repeat (first | refine blk_drewN ?_ _ | refine blk_drew ?_ | refine blk_alloc ?_ _)); refine blk_far ?_ NB215_200.out _; (with_reducible repeat (first | refine blk_drewN ?_ _ | refine blk_drew ?_ | refine blk_alloc ?_ _)); refine blk_far ?_ NB215_201.out _; (with_reducible repeat (first | refine blk_drewN ?_ _ | refine blk_drew ?_ | refine blk_alloc ?_ _)); exact BK215.out) hb); have n4_ := Aside0.mk (below_step (by repeat (first | (with_reducible first | exact HB.out | apply below_alloc | apply pw_below_drewN | apply below_drew1 | refine below_set ?_ GE200.out | refine below_set ?_ GE201.out | refine below_set ?_ GE205.out | refine below_set ?_ GE215.out) | exact HB.out)) hb); clear BK200; clear BK201; clear BK205; clear BK215; clear HB; have BK200 := n0_; have BK201 := n1_; have BK205 := n2_; have BK215 := n3_; have HB := n4_; clear n0_ n1_ n2_ n3_ n4_; (try clear hb); (try clear hb2); (try clear hk); (try clear hi); have hcz95_0 : w94.cell? ⟨gb200, 0, none⟩ = some (.int .i64 t209) := (blk_cell BK200.out 0).trans rfl; have hcz95_1 : w94.cell? ⟨gb200, 1, none⟩ = some (.int .i64 t210) := (blk_cell BK200.out 1).trans rfl; have hcz95_2 : w94.cell? ⟨gb200, 2, none⟩ = some (.int .i64 t211) := (blk_cell BK200.out 2).trans rfl; have hfz95_0 := blk_frozen BK200.out 0; have hfz95_1 := blk_frozen BK200.out 1; have hfz95_2 := blk_frozen BK200.out 2; have hnb96 := NB201_205.out; have hnc96 := NB205_201.out; have hcz97_0 : w94.cell? ⟨gb201, 0, none⟩ = some (.int .i64 x202000_1) := (blk_cell BK201.out 0).trans rfl; have hcz97_1 : w94.cell? ⟨gb201, 1, none⟩ = some (.int .i64 (wrap64 (x202001_1 + (wrap64 ((rd_T39 l0 x6_1).f1))))) := (blk_cell BK201.out 1).trans rfl; have hcz97_2 : w94.cell? ⟨gb201, 2, none⟩ = some (.int .i64 x202002_1) := (blk_cell BK201.out 2).trans rfl; have hfz97_0 := blk_frozen BK201.out 0; have hfz97_1 := blk_frozen BK201.out 1; have hfz97_2 := blk_frozen BK201.out 2))
                                        go_roundg kj47
                                        case measure => have := HK1.out; have := HJ11.out; have := HJ47.out; omega
                                        case rel => exact ⟨(wrap64 (x6_1 + 1)), (t209), (t210), (t211), (x202000_1), (wrap64 (x202001_1 + (wrap64 ((rd_T39 l0 x6_1).f1)))), (x202002_1), (by first | rfl | (simp; done) | (simp [*]; done)), H', ⟨by have := HK1.out; have := HJ11.out; have := HJ47.out; omega⟩, ⟨by (with_reducible repeat (first | refine blk_drewN ?_ _ | refine blk_drew ?_ | refine blk_alloc ?_ _)); exact BK200.out⟩, ⟨by (with_reducible repeat (first | refine blk_drewN ?_ _ | refine blk_drew ?_ | refine blk_alloc ?_ _)); exact BK201.out⟩, ⟨by repeat (first | (with_reducible first | exact HB.out | apply below_alloc | apply pw_below_drewN | apply below_drew1 | refine below_set ?_ GE200.out | refine below_set ?_ GE201.out | refine below_set ?_ GE205.out | refine below_set ?_ GE215.out) | exact HB.out)⟩⟩
                                      · rw [if_neg c84] at H
                                        have c84b0 : (t211 == (wrap64 ((wrap64 (x202000_1 - (wrap64 (x202001_1 + (wrap64 ((rd_T39 l0 x6_1).f1)))))) - x202002_1))) = false := beq_eq_false_iff_ne.mpr c84
                                        have c84b1 : (t211 != (wrap64 ((wrap64 (x202000_1 - (wrap64 (x202001_1 + (wrap64 ((rd_T39 l0 x6_1).f1)))))) - x202002_1))) = true := bne_iff_ne.mpr c84
                                        exact absurd ((Option.some.inj H).trans hr_) (by simp)
                                    · rw [if_neg c83] at H
                                      have c83b0 : (t210 == (wrap64 (x202001_1 + (wrap64 ((rd_T39 l0 x6_1).f1))))) = false := beq_eq_false_iff_ne.mpr c83
                                      have c83b1 : (t210 != (wrap64 (x202001_1 + (wrap64 ((rd_T39 l0 x6_1).f1))))) = true := bne_iff_ne.mpr c83
                                      exact absurd ((Option.some.inj H).trans hr_) (by simp)
                                  · rw [if_neg c82] at H
                                    have c82b0 : (t209 == x202000_1) = false := beq_eq_false_iff_ne.mpr c82
                                    have c82b1 : (t209 != x202000_1) = true := bne_iff_ne.mpr c82
                                    exact absurd ((Option.some.inj H).trans hr_) (by simp)
                                · replace c81 := Bool.eq_false_iff.mpr c81
                                  subst c81
                                  have H1 : (some false) = some r := by rw [if_neg (show ¬ (false = true) by decide)] at H; exact H
                                  clear H
                                  have H := H1
                                  clear H1
                                  exact absurd ((Option.some.inj H).trans hr_) (by simp)
                              · rw [if_neg c79] at H
                                have c79b0 : ((wrap64 ((rd_T39 l0 x6_1).f0)) == 1) = false := beq_eq_false_iff_ne.mpr c79
                                have c79b1 : ((wrap64 ((rd_T39 l0 x6_1).f0)) != 1) = true := bne_iff_ne.mpr c79
                                by_cases c98 : (wrap64 ((rd_T39 l0 x6_1).f0)) = 2
                                · rw [if_pos c98] at H
                                  have c98ix : ∀ (g_ : Nat) (W_ : World), (Instr.indexAt 38 (.pointer (some ⟨g_, 0, none⟩)) (.int .i64 ((wrap64 ((rd_T39 l0 x6_1).f0))))).run Try.prog W_ = .ok (.pointer (some ⟨g_, 2, none⟩)) W_ := fun g_ W_ => by rw [c98]; simp [go_sem, Try.underlying38]
                                  have c98b0 : ((wrap64 ((rd_T39 l0 x6_1).f0)) == 2) = true := beq_iff_eq.mpr c98
                                  have c98b1 : ((wrap64 ((rd_T39 l0 x6_1).f0)) != 2) = false := bne_eq_false_iff_eq.mpr c98
                                  clear c98
                                  replace H := Option.bind_eq_some_iff.mp H
                                  obtain ⟨t220, A990, H⟩ := H
                                  replace H : (if t220 = true then (if t209 = x202000_1 then (if t210 = x202001_1 then (if t211 = (wrap64 ((wrap64 (x202000_1 - x202001_1)) - (wrap64 (x202002_1 + (wrap64 ((rd_T39 l0 x6_1).f1)))))) then (sawtoothlaw16_FlightSums.l0 kj47 l0 t199 (wrap64 (x6_1 + 1)) t209 t210 t211 x202000_1 x202001_1 (wrap64 (x202002_1 + (wrap64 ((rd_T39 l0 x6_1).f1))))) else (some false)) else (some false)) else (some false)) else (some false)) = some r := H
                                  have A99 := Aside0.mk A990
                                  clear A990
                                  by_cases c100 : t220 = true
                                  · subst c100
                                    have H1 : (if t209 = x202000_1 then (if t210 = x202001_1 then (if t211 = (wrap64 ((wrap64 (x202000_1 - x202001_1)) - (wrap64 (x202002_1 + (wrap64 ((rd_T39 l0 x6_1).f1)))))) then (sawtoothlaw16_FlightSums.l0 kj47 l0 t199 (wrap64 (x6_1 + 1)) t209 t210 t211 x202000_1 x202001_1 (wrap64 (x202002_1 + (wrap64 ((rd_T39 l0 x6_1).f1))))) else (some false)) else (some false)) else (some false)) = some r := by rw [if_pos rfl] at H; exact H
                                    clear H
                                    have H := H1
                                    clear H1
                                    by_cases c101 : t209 = x202000_1
                                    · rw [if_pos c101] at H
                                      have c101b0 : (t209 == x202000_1) = true := beq_iff_eq.mpr c101
                                      have c101b1 : (t209 != x202000_1) = false := bne_eq_false_iff_eq.mpr c101
                                      clear c101
                                      by_cases c102 : t210 = x202001_1
                                      · rw [if_pos c102] at H
                                        have c102b0 : (t210 == x202001_1) = true := beq_iff_eq.mpr c102
                                        have c102b1 : (t210 != x202001_1) = false := bne_eq_false_iff_eq.mpr c102
                                        clear c102
                                        by_cases c103 : t211 = (wrap64 ((wrap64 (x202000_1 - x202001_1)) - (wrap64 (x202002_1 + (wrap64 ((rd_T39 l0 x6_1).f1))))))
                                        · rw [if_pos c103] at H
                                          have c103b0 : (t211 == (wrap64 ((wrap64 (x202000_1 - x202001_1)) - (wrap64 (x202002_1 + (wrap64 ((rd_T39 l0 x6_1).f1))))))) = true := beq_iff_eq.mpr c103
                                          have c103b1 : (t211 != (wrap64 ((wrap64 (x202000_1 - x202001_1)) - (wrap64 (x202002_1 + (wrap64 ((rd_T39 l0 x6_1).f1))))))) = false := bne_eq_false_iff_eq.mpr c103
                                          clear c103
                                          have H' := Aside0.mk H
                                          clear H
                                          try go_wp2
                                          have n0_ := Aside0.mk (blk_drew BK200.out)
                                          have n1_ := Aside0.mk (blk_drew BK201.out)
                                          have n2_ := Aside0.mk (blk_drew BK205.out)
                                          have n3_ := Aside0.mk (blk_drew BK215.out)
                                          have n4_ := Aside0.mk (below_drew1 HB.out)
                                          clear BK200
                                          clear BK201
                                          clear BK205
                                          clear BK215
                                          clear HB
                                          have BK200 := n0_
                                          have BK201 := n1_
                                          have BK205 := n2_
                                          have BK215 := n3_
                                          have HB := n4_
                                          clear n0_ n1_ n2_ n3_ n4_
                                          refine start_ (n := 11) (S := fun w' => w'.cell? ⟨gb205, 0, none⟩ = some (.int .i64 (wrap64 ((rd_T39 l0 x6_1).f0))) ∧ w'.cell? ⟨gb205, 1, none⟩ = some (.int .i64 (wrap64 ((rd_T39 l0 x6_1).f1))) ∧ w'.cell? ⟨gb205, 2, none⟩ = some (.int .i64 (wrap64 ((rd_T39 l0 x6_1).f2))) ∧ w'.cell? ⟨gb201, 0, none⟩ = some (.int .i64 x202000_1) ∧ w'.cell? ⟨gb201, 1, none⟩ = some (.int .i64 x202001_1) ∧ w'.cell? ⟨gb201, 2, none⟩ = some (.int .i64 x202002_1)) (ds := [10]) #[false, false, false, false, false, false, false, false, false, false, false] (by kernel_rfl) rfl rfl ⟨(blk_cell BK205.out 0).trans rfl, (blk_cell BK205.out 1).trans rfl, (blk_cell BK205.out 2).trans rfl, (blk_cell BK201.out 0).trans rfl, (blk_cell BK201.out 1).trans rfl, (blk_cell BK201.out 2).trans rfl⟩ (fun hHeld => ?_); refine with_tabW sawtoothlaw16_FlightSums.tab16 sawtoothlaw16_FlightSums.bits16 (fun HT_ HW_ => ?_)
                                          generalize wc.drew = w104 at BK200 BK201 BK205 BK215 HB hHeld ⊢
                                          refine pure_ (i := 0) (N := some 73) (v := ?_) (a' := ?_) #[true, false, false, false, false, false, false, false, false, false, false] rfl rfl (any_of HT_.out (by kernel_rfl)) (fun _ _ _ h => h) (Or.inl ⟨by rfl, ?_⟩) ?_ ?_
                                          rotate_left
                                          · intro w'
                                            go_simp
                                            with_reducible rfl
                                          rotate_left
                                          · simp only [Act.put, List.setIfInBounds_toArray, List.set_cons_zero, List.set_cons_succ, i64_w, i32_w]
                                            rfl
                                          refine pure_ (i := 2) (N := some 75) (v := ?_) (a' := ?_) #[true, false, true, false, false, false, false, false, false, false, false] rfl rfl (any_of HT_.out (by kernel_rfl)) (fun _ _ _ h => h) (Or.inl ⟨by rfl, ?_⟩) ?_ ?_
                                          rotate_left
                                          · intro w'
                                            go_simp
                                            with_reducible rfl
                                          rotate_left
                                          · simp only [Act.put, List.setIfInBounds_toArray, List.set_cons_zero, List.set_cons_succ, i64_w, i32_w]
                                            rfl
                                          refine pure_ (i := 6) (N := some 79) (v := ?_) (a' := ?_) #[true, false, true, false, false, false, true, false, false, false, false] rfl rfl (any_of HT_.out (by kernel_rfl)) (fun _ _ _ h => h) (Or.inl ⟨by rfl, ?_⟩) ?_ ?_
                                          rotate_left
                                          · intro w'
                                            go_simp
                                            with_reducible rfl
                                          rotate_left
                                          · simp only [Act.put, List.setIfInBounds_toArray, List.set_cons_zero, List.set_cons_succ, i64_w, i32_w]
                                            rfl
                                          refine take_ (i := 1) (N := some 74) (v := ?_) (a' := ?_) #[true, true, true, false, false, false, true, false, false, false, false] rfl rfl (take_ofW HT_.out HW_.out (by kernel_rfl)) (fun _ _ _ h => h) (Or.inl ⟨by rfl, ?_⟩) hHeld ?_ ?_
                                          rotate_left
                                          · rintro w' ⟨s0, s1, s2, s3, s4, s5⟩
                                            go_simp
                                            with_reducible rfl
                                          rotate_left
                                          · simp only [Act.put, List.setIfInBounds_toArray, List.set_cons_zero, List.set_cons_succ, i64_w, i32_w]
                                            rfl
                                          refine take_ (i := 3) (N := some 76) (v := ?_) (a' := ?_) #[true, true, true, true, false, false, true, false, false, false, false] rfl rfl (take_ofW HT_.out HW_.out (by kernel_rfl)) (fun _ _ _ h => h) (Or.inl ⟨by rfl, ?_⟩) hHeld ?_ ?_
                                          rotate_left
                                          · rintro w' ⟨s0, s1, s2, s3, s4, s5⟩
                                            go_simp
                                            with_reducible rfl
                                          rotate_left
                                          · simp only [Act.put, List.setIfInBounds_toArray, List.set_cons_zero, List.set_cons_succ, i64_w, i32_w]
                                            rfl
                                          refine pure_ (i := 4) (N := some 77) (v := ?_) (a' := ?_) #[true, true, true, true, true, false, true, false, false, false, false] rfl rfl (any_of HT_.out (by kernel_rfl)) (fun _ _ _ h => h) (Or.inl ⟨by rfl, ?_⟩) ?_ ?_
                                          rotate_left
                                          · intro w'
                                            go_simp
                                            with_reducible rfl
                                          rotate_left
                                          · simp only [Act.put, List.setIfInBounds_toArray, List.set_cons_zero, List.set_cons_succ, i64_w, i32_w]
                                            rfl
                                          refine take_ (i := 5) (N := some 78) (v := ?_) (a' := ?_) #[true, true, true, true, true, true, true, false, false, false, false] rfl rfl (take_ofW HT_.out HW_.out (by kernel_rfl)) (fun _ _ _ h => h) (Or.inl ⟨by rfl, ?_⟩) hHeld ?_ ?_
                                          rotate_left
                                          · rintro w' ⟨s0, s1, s2, s3, s4, s5⟩
                                            go_simp
                                            with_reducible rfl
                                          rotate_left
                                          · simp only [Act.put, List.setIfInBounds_toArray, List.set_cons_zero, List.set_cons_succ, i64_w, i32_w]
                                            rfl
                                          refine take_ (i := 7) (N := some 80) (v := ?_) (a' := ?_) #[true, true, true, true, true, true, true, true, false, false, false] rfl rfl (take_ofW HT_.out HW_.out (by kernel_rfl)) (fun _ _ _ h => h) (Or.inl ⟨by rfl, ?_⟩) hHeld ?_ ?_
                                          rotate_left
                                          · rintro w' ⟨s0, s1, s2, s3, s4, s5⟩
                                            go_simp
                                            with_reducible rfl
                                          rotate_left
                                          · simp only [Act.put, List.setIfInBounds_toArray, List.set_cons_zero, List.set_cons_succ, i64_w, i32_w]
                                            rfl
                                          refine pure_ (i := 8) (N := some 81) (v := ?_) (a' := ?_) #[true, true, true, true, true, true, true, true, true, false, false] rfl rfl (any_of HT_.out (by kernel_rfl)) (fun _ _ _ h => h) (Or.inl ⟨by rfl, ?_⟩) ?_ ?_
                                          rotate_left
                                          · intro w'
                                            go_simp
                                            with_reducible rfl
                                          rotate_left
                                          · simp only [Act.put, List.setIfInBounds_toArray, List.set_cons_zero, List.set_cons_succ, i64_w, i32_w]
                                            rfl
                                          refine pure_ (i := 9) (N := some 82) (v := ?_) (a' := ?_) #[true, true, true, true, true, true, true, true, true, true, false] rfl rfl (any_of HT_.out (by kernel_rfl)) (fun _ _ _ h => h) (Or.inl ⟨by rfl, ?_⟩) ?_ ?_
                                          rotate_left
                                          · intro w'
                                            go_simp
                                            with_reducible rfl
                                          rotate_left
                                          · simp only [Act.put, List.setIfInBounds_toArray, List.set_cons_zero, List.set_cons_succ, i64_w, i32_w]
                                            rfl
                                          refine last_ (i := 10) (N := none) #[true, true, true, true, true, true, true, true, true, true, true] rfl rfl (one_of HT_.out (by kernel_rfl)) (by decide) (fun K hK => ?_)
                                          have hs105 : w104.cell? ⟨gb201, 2, none⟩ = some (.int .i64 x202002_1) := (blk_cell BK201.out 2).trans rfl
                                          have hfs105 := blk_frozen BK201.out 2
                                          have hns105_0 := NB200_201.out
                                          have hns105_2 := NB205_201.out
                                          have hns105_3 := NB215_201.out
                                          have hms105_0 := NB201_200.out
                                          have hms105_2 := NB201_205.out
                                          have hms105_3 := NB201_215.out
                                          refine skip_ (w1 := ?_) (by rfl) rfl ?_ ?_
                                          rotate_left
                                          · go_simp
                                            rfl
                                          refine hK.out _ _ ?_
                                          clear hK K
                                          refine done_ (done_of HT_.out (by kernel_rfl)) ?_
                                          have hnb106 := NB215_200.out
                                          have hnc106 := NB200_215.out
                                          have hnb107 := NB215_201.out
                                          have hnc107 := NB201_215.out
                                          have hnb108 := NB215_205.out
                                          have hnc108 := NB205_215.out
                                          have hcz109_0 : w104.cell? ⟨gb215, 0, none⟩ = some (.int .i64 t209) := (blk_cell BK215.out 0).trans rfl
                                          have hcz109_1 : w104.cell? ⟨gb215, 1, none⟩ = some (.int .i64 t210) := (blk_cell BK215.out 1).trans rfl
                                          have hcz109_2 : w104.cell? ⟨gb215, 2, none⟩ = some (.int .i64 t211) := (blk_cell BK215.out 2).trans rfl
                                          have hfz109_0 := blk_frozen BK215.out 0
                                          have hfz109_1 := blk_frozen BK215.out 1
                                          have hfz109_2 := blk_frozen BK215.out 2
                                          have hnb110 := NB200_201.out
                                          have hnc110 := NB201_200.out
                                          have hnb111 := NB200_205.out
                                          have hnc111 := NB205_200.out
                                          have hcz112_0 : w104.cell? ⟨gb200, 0, none⟩ = some (.int .i64 x201000_1) := (blk_cell BK200.out 0).trans rfl
                                          have hcz112_1 : w104.cell? ⟨gb200, 1, none⟩ = some (.int .i64 x201001_1) := (blk_cell BK200.out 1).trans rfl
                                          have hcz112_2 : w104.cell? ⟨gb200, 2, none⟩ = some (.int .i64 x201002_1) := (blk_cell BK200.out 2).trans rfl
                                          have hfz112_0 := blk_frozen BK200.out 0
                                          have hfz112_1 := blk_frozen BK200.out 1
                                          have hfz112_2 := blk_frozen BK200.out 2
                                          try go_wp2_with (first | ((with_reducible refine gate_callee (f := 18) rfl ?_); refine goesL_ (some 85) rfl rfl Try.func18 (by kernel_rfl) rfl #[.agg #[.int .i64 t209, .int .i64 t210, .int .i64 t211]] rfl (by (try simp only [List.map_toArray, List.map_cons, List.map_nil]); first | done | rfl | (simp only [List.length_drop, List.length_take]; rfl)) ?_; (with_reducible refine (flight_Check.calls t209 t210 t211 true _ A99.out).mono ?_); rintro e w113 ⟨rfl, hb⟩; refine ⟨_, rfl, ?_⟩; have n0_ := Aside0.mk (blk_below (g := gb200) (o := .cells #[.int .i64 t209, .int .i64 t210, .int .i64 t211] 23 (0, 0)) (by (with_reducible repeat (first | refine blk_drewN ?_ _ | refine blk_drew ?_ | refine blk_alloc ?_ _)); refine blk_put (cs := #[.int .i64 t209, .int .i64 t210, .int .i64 x201002_1]) ?_ 2 _ rfl; (with_reducible repeat (first | refine blk_drewN ?_ _ | refine blk_drew ?_ | refine blk_alloc ?_ _)); refine blk_put (cs := #[.int .i64 t209, .int .i64 x201001_1, .int .i64 x201002_1]) ?_ 1 _ rfl; (with_reducible repeat (first | refine blk_drewN ?_ _ | refine blk_drew ?_ | refine blk_alloc ?_ _)); refine blk_put (cs := #[.int .i64 x201000_1, .int .i64 x201001_1, .int .i64 x201002_1]) ?_ 0 _ rfl; (with_reducible repeat (first | refine blk_drewN ?_ _ | refine blk_drew ?_ | refine blk_alloc ?_ _)); refine blk_far ?_ NB200_201.out _; (with_reducible repeat (first | refine blk_drewN ?_ _ | refine blk_drew ?_ | refine blk_alloc ?_ _)); exact BK200.out) hb); have n1_ := Aside0.mk (blk_below (g := gb201) (o := .cells #[.int .i64 x202000_1, .int .i64 x202001_1, .int .i64 (wrap64 (x202002_1 + (wrap64 ((rd_T39 l0 x6_1).f1))))] 38 (0, 0)) (by (with_reducible repeat (first | refine blk_drewN ?_ _ | refine blk_drew ?_ | refine blk_alloc ?_ _)); refine blk_far ?_ NB201_200.out _; (with_reducible repeat (first | refine blk_drewN ?_ _ | refine blk_drew ?_ | refine blk_alloc ?_ _)); refine blk_far ?_ NB201_200.out _; (with_reducible repeat (first | refine blk_drewN ?_ _ | refine blk_drew ?_ | refine blk_alloc ?_ _)); refine blk_far ?_ NB201_200.out _; (with_reducible repeat (first | refine blk_drewN ?_ _ | refine blk_drew ?_ | refine blk_alloc ?_ _)); refine blk_put (cs := #[.int .i64 x202000_1, .int .i64 x202001_1, .int .i64 x202002_1]) ?_ 2 _ rfl; (with_reducible repeat (first | refine blk_drewN ?_ _ | refine blk_drew ?_ | refine blk_alloc ?_ _)); exact BK201.out) hb); have n2_ := Aside0.mk (blk_below (g := gb205) (o := .cells #[.int .i64 (wrap64 ((rd_T39 l0 x6_1).f0)), .int .i64 (wrap64 ((rd_T39 l0 x6_1).f1)), .int .i64 (wrap64 ((rd_T39 l0 x6_1).f2))] 38 (0, 0)) (by (with_reducible repeat (first | refine blk_drewN ?_ _ | refine blk_drew ?_ | refine blk_alloc ?_ _)); refine blk_far ?_ NB205_200.out _; (with_reducible repeat (first | refine blk_drewN ?_ _ | refine blk_drew ?_ | refine blk_alloc ?_ _)); refine blk_far ?_ NB205_200.out _; (with_reducible repeat (first | refine blk_drewN ?_ _ | refine blk_drew ?_ | refine blk_alloc ?_ _)); refine blk_far ?_ NB205_200.out _; (with_reducible repeat (first | refine blk_drewN ?_ _ | refine blk_drew ?_ | refine blk_alloc ?_ _)); refine blk_far ?_ NB205_201.out _; (with_reducible repeat (first | refine blk_drewN ?_ _ | refine blk_drew ?_ | refine blk_alloc ?_ _)); exact BK205.out) hb); have n3_ := Aside0.mk (blk_below (g := gb215) (o := .cells #[.int .i64 t209, .int .i64 t210, .int .i64 t211] 23 (0, 0)) (by (with_reducible repeat (first | refine blk_drewN ?_ _ | refine blk_drew ?_ | refine blk_alloc ?_ _)); refine blk_far ?_ NB215_200.out _; (with_reducible repeat (first | refine blk_drewN ?_ _ | refine blk_drew ?_ | refine blk_alloc ?_ _)); refine blk_far ?_ NB215_200.out _; (with_reducible repeat (first | refine blk_drewN ?_ _ | refine blk_drew ?_ | refine blk_alloc ?_ _)); refine blk_far ?_ NB215_200.out _; (with_reducible repeat (first | refine blk_drewN ?_ _ | refine blk_drew ?_ | refine blk_alloc ?_ _)); refine blk_far ?_ NB215_201.out _; (with_reducible repeat (first | refine blk_drewN ?_ _ | refine blk_drew ?_ | refine blk_alloc ?_ _)); exact BK215.out) hb); have n4_ := Aside0.mk (below_step (by repeat (first | (with_reducible first | exact HB.out | apply below_alloc | apply pw_below_drewN | apply below_drew1 | refine below_set ?_ GE200.out | refine below_set ?_ GE201.out | refine below_set ?_ GE205.out | refine below_set ?_ GE215.out) | exact HB.out)) hb); clear BK200; clear BK201; clear BK205; clear BK215; clear HB; have BK200 := n0_; have BK201 := n1_; have BK205 := n2_; have BK215 := n3_; have HB := n4_; clear n0_ n1_ n2_ n3_ n4_; (try clear hb); (try clear hb2); (try clear hk); (try clear hi); have hcz114_0 : w113.cell? ⟨gb200, 0, none⟩ = some (.int .i64 t209) := (blk_cell BK200.out 0).trans rfl; have hcz114_1 : w113.cell? ⟨gb200, 1, none⟩ = some (.int .i64 t210) := (blk_cell BK200.out 1).trans rfl; have hcz114_2 : w113.cell? ⟨gb200, 2, none⟩ = some (.int .i64 t211) := (blk_cell BK200.out 2).trans rfl; have hfz114_0 := blk_frozen BK200.out 0; have hfz114_1 := blk_frozen BK200.out 1; have hfz114_2 := blk_frozen BK200.out 2; have hnb115 := NB201_205.out; have hnc115 := NB205_201.out; have hcz116_0 : w113.cell? ⟨gb201, 0, none⟩ = some (.int .i64 x202000_1) := (blk_cell BK201.out 0).trans rfl; have hcz116_1 : w113.cell? ⟨gb201, 1, none⟩ = some (.int .i64 x202001_1) := (blk_cell BK201.out 1).trans rfl; have hcz116_2 : w113.cell? ⟨gb201, 2, none⟩ = some (.int .i64 (wrap64 (x202002_1 + (wrap64 ((rd_T39 l0 x6_1).f1))))) := (blk_cell BK201.out 2).trans rfl; have hfz116_0 := blk_frozen BK201.out 0; have hfz116_1 := blk_frozen BK201.out 1; have hfz116_2 := blk_frozen BK201.out 2))
                                          go_roundg kj47
                                          case measure => have := HK1.out; have := HJ11.out; have := HJ47.out; omega
                                          case rel => exact ⟨(wrap64 (x6_1 + 1)), (t209), (t210), (t211), (x202000_1), (x202001_1), (wrap64 (x202002_1 + (wrap64 ((rd_T39 l0 x6_1).f1)))), (by first | rfl | (simp; done) | (simp [*]; done)), H', ⟨by have := HK1.out; have := HJ11.out; have := HJ47.out; omega⟩, ⟨by (with_reducible repeat (first | refine blk_drewN ?_ _ | refine blk_drew ?_ | refine blk_alloc ?_ _)); exact BK200.out⟩, ⟨by (with_reducible repeat (first | refine blk_drewN ?_ _ | refine blk_drew ?_ | refine blk_alloc ?_ _)); exact BK201.out⟩, ⟨by repeat (first | (with_reducible first | exact HB.out | apply below_alloc | apply pw_below_drewN | apply below_drew1 | refine below_set ?_ GE200.out | refine below_set ?_ GE201.out | refine below_set ?_ GE205.out | refine below_set ?_ GE215.out) | exact HB.out)⟩⟩
                                        · rw [if_neg c103] at H
                                          have c103b0 : (t211 == (wrap64 ((wrap64 (x202000_1 - x202001_1)) - (wrap64 (x202002_1 + (wrap64 ((rd_T39 l0 x6_1).f1))))))) = false := beq_eq_false_iff_ne.mpr c103
                                          have c103b1 : (t211 != (wrap64 ((wrap64 (x202000_1 - x202001_1)) - (wrap64 (x202002_1 + (wrap64 ((rd_T39 l0 x6_1).f1))))))) = true := bne_iff_ne.mpr c103
                                          exact absurd ((Option.some.inj H).trans hr_) (by simp)
                                      · rw [if_neg c102] at H
                                        have c102b0 : (t210 == x202001_1) = false := beq_eq_false_iff_ne.mpr c102
                                        have c102b1 : (t210 != x202001_1) = true := bne_iff_ne.mpr c102
                                        exact absurd ((Option.some.inj H).trans hr_) (by simp)
                                    · rw [if_neg c101] at H
                                      have c101b0 : (t209 == x202000_1) = false := beq_eq_false_iff_ne.mpr c101
                                      have c101b1 : (t209 != x202000_1) = true := bne_iff_ne.mpr c101
                                      exact absurd ((Option.some.inj H).trans hr_) (by simp)
                                  · replace c100 := Bool.eq_false_iff.mpr c100
                                    subst c100
                                    have H1 : (some false) = some r := by rw [if_neg (show ¬ (false = true) by decide)] at H; exact H
                                    clear H
                                    have H := H1
                                    clear H1
                                    exact absurd ((Option.some.inj H).trans hr_) (by simp)
                                · rw [if_neg c98] at H
                                  exact absurd H (by simp)
                    · rw [if_neg c47] at H
                      have c47b0 : ((rd t212 0) == 0) = false := beq_eq_false_iff_ne.mpr c47
                      have c47b1 : ((rd t212 0) != 0) = true := bne_iff_ne.mpr c47
                      replace H := Option.bind_eq_some_iff.mp H
                      obtain ⟨t221, A1170, H⟩ := H
                      replace H : (if t221 = true then (if t209 = x202000_1 then (if t210 = x202001_1 then (if t211 = (wrap64 ((wrap64 (x202000_1 - x202001_1)) - x202002_1)) then (sawtoothlaw16_FlightSums.l0 kj11 l0 t199 (wrap64 (x6_1 + 1)) t209 t210 t211 x202000_1 x202001_1 x202002_1) else (some false)) else (some false)) else (some false)) else (some false)) = some r := H
                      have A117 := Aside0.mk A1170
                      clear A1170
                      by_cases c118 : t221 = true
                      · subst c118
                        have H1 : (if t209 = x202000_1 then (if t210 = x202001_1 then (if t211 = (wrap64 ((wrap64 (x202000_1 - x202001_1)) - x202002_1)) then (sawtoothlaw16_FlightSums.l0 kj11 l0 t199 (wrap64 (x6_1 + 1)) t209 t210 t211 x202000_1 x202001_1 x202002_1) else (some false)) else (some false)) else (some false)) = some r := by rw [if_pos rfl] at H; exact H
                        clear H
                        have H := H1
                        clear H1
                        by_cases c119 : t209 = x202000_1
                        · rw [if_pos c119] at H
                          have c119b0 : (t209 == x202000_1) = true := beq_iff_eq.mpr c119
                          have c119b1 : (t209 != x202000_1) = false := bne_eq_false_iff_eq.mpr c119
                          clear c119
                          by_cases c120 : t210 = x202001_1
                          · rw [if_pos c120] at H
                            have c120b0 : (t210 == x202001_1) = true := beq_iff_eq.mpr c120
                            have c120b1 : (t210 != x202001_1) = false := bne_eq_false_iff_eq.mpr c120
                            clear c120
                            by_cases c121 : t211 = (wrap64 ((wrap64 (x202000_1 - x202001_1)) - x202002_1))
                            · rw [if_pos c121] at H
                              have c121b0 : (t211 == (wrap64 ((wrap64 (x202000_1 - x202001_1)) - x202002_1))) = true := beq_iff_eq.mpr c121
                              have c121b1 : (t211 != (wrap64 ((wrap64 (x202000_1 - x202001_1)) - x202002_1))) = false := bne_eq_false_iff_eq.mpr c121
                              clear c121
                              have H' := Aside0.mk H
                              clear H
                              obtain ⟨Ao122, co122, eo122⟩ := Kd.R_slice HO_9.out
                              subst eo122
                              have p217 : 0 ≤ (0 : Int) := (by omega)
                              have q217 : 0 < (t212.length : Int) := of_decide_eq_true (by first | (with_reducible assumption) | assumption)
                              obtain ⟨ad217, e217, hx217_0⟩ := Kd.at_int (Kd.R_reads' HO_9.out).2.2 0 p217 q217
                              cases e217
                              have qi217 : (0 < t212.length) = True := eq_true (by omega)
                              (try rw [show ((0 : Int)).toNat = 0 from rfl] at hx217_0)
                              (try rw [Addr.add_zero'] at hx217_0)
                              replace p217 := eq_true p217
                              replace q217 := eq_true q217
                              have hnb123 := NB215_200.out
                              have hnc123 := NB200_215.out
                              have hnb124 := NB215_201.out
                              have hnc124 := NB201_215.out
                              have hnb125 := NB215_205.out
                              have hnc125 := NB205_215.out
                              have hcz126_0 : wc.cell? ⟨gb215, 0, none⟩ = some (.int .i64 t209) := (blk_cell BK215.out 0).trans rfl
                              have hcz126_1 : wc.cell? ⟨gb215, 1, none⟩ = some (.int .i64 t210) := (blk_cell BK215.out 1).trans rfl
                              have hcz126_2 : wc.cell? ⟨gb215, 2, none⟩ = some (.int .i64 t211) := (blk_cell BK215.out 2).trans rfl
                              have hfz126_0 := blk_frozen BK215.out 0
                              have hfz126_1 := blk_frozen BK215.out 1
                              have hfz126_2 := blk_frozen BK215.out 2
                              have hnb127 := NB200_201.out
                              have hnc127 := NB201_200.out
                              have hnb128 := NB200_205.out
                              have hnc128 := NB205_200.out
                              have hcz129_0 : wc.cell? ⟨gb200, 0, none⟩ = some (.int .i64 x201000_1) := (blk_cell BK200.out 0).trans rfl
                              have hcz129_1 : wc.cell? ⟨gb200, 1, none⟩ = some (.int .i64 x201001_1) := (blk_cell BK200.out 1).trans rfl
                              have hcz129_2 : wc.cell? ⟨gb200, 2, none⟩ = some (.int .i64 x201002_1) := (blk_cell BK200.out 2).trans rfl
                              have hfz129_0 := blk_frozen BK200.out 0
                              have hfz129_1 := blk_frozen BK200.out 1
                              have hfz129_2 := blk_frozen BK200.out 2
                              go_wp2_with (first | ((with_reducible refine gate_callee (f := 18) rfl ?_); refine goesL_ (some 85) rfl rfl Try.func18 (by kernel_rfl) rfl #[.agg #[.int .i64 t209, .int .i64 t210, .int .i64 t211]] rfl (by (try simp only [List.map_toArray, List.map_cons, List.map_nil]); first | done | rfl | (simp only [List.length_drop, List.length_take]; rfl)) ?_; (with_reducible refine (flight_Check.calls t209 t210 t211 true _ A117.out).mono ?_); rintro e w130 ⟨rfl, hb⟩; refine ⟨_, rfl, ?_⟩; have n0_ := Aside0.mk (Kd.R_below (by (with_reducible repeat (first | apply Kd.R_alloc | apply Kd.R_drewN | apply Kd.R_drew)); exact (Kd.R_mono (Kd.R_far (p := ⟨gb200, 2, none⟩) (Kd.R_far (p := ⟨gb200, 1, none⟩) (Kd.R_far (p := ⟨gb200, 0, none⟩) (Kd.R_types HO_9.out BK200.out (by decide)) (fun _ hk => hk.2) (.int .i64 t209)) (fun _ hk => hk.2) (.int .i64 t210)) (fun _ hk => hk.2) (.int .i64 t211)) (fun _ h_ => h_.1))) hb); have n1_ := Aside0.mk (blk_below (g := gb200) (o := .cells #[.int .i64 t209, .int .i64 t210, .int .i64 t211] 23 (0, 0)) (by (with_reducible repeat (first | refine blk_drewN ?_ _ | refine blk_drew ?_ | refine blk_alloc ?_ _)); refine blk_put (cs := #[.int .i64 t209, .int .i64 t210, .int .i64 x201002_1]) ?_ 2 _ rfl; (with_reducible repeat (first | refine blk_drewN ?_ _ | refine blk_drew ?_ | refine blk_alloc ?_ _)); refine blk_put (cs := #[.int .i64 t209, .int .i64 x201001_1, .int .i64 x201002_1]) ?_ 1 _ rfl; (with_reducible repeat (first | refine blk_drewN ?_ _ | refine blk_drew ?_ | refine blk_alloc ?_ _)); refine blk_put (cs := #[.int .i64 x201000_1, .int .i64 x201001_1, .int .i64 x201002_1]) ?_ 0 _ rfl; (with_reducible repeat (first | refine blk_drewN ?_ _ | refine blk_drew ?_ | refine blk_alloc ?_ _)); exact BK200.out) hb); have n2_ := Aside0.mk (blk_below (g := gb201) (o := .cells #[.int .i64 x202000_1, .int .i64 x202001_1, .int .i64 x202002_1] 38 (0, 0)) (by (with_reducible repeat (first | refine blk_drewN ?_ _ | refine blk_drew ?_ | refine blk_alloc ?_ _)); refine blk_far ?_ NB201_200.out _; (with_reducible repeat (first | refine blk_drewN ?_ _ | refine blk_drew ?_ | refine blk_alloc ?_ _)); refine blk_far ?_ NB201_200.out _; (with_reducible repeat (first | refine blk_drewN ?_ _ | refine blk_drew ?_ | refine blk_alloc ?_ _)); refine blk_far ?_ NB201_200.out _; (with_reducible repeat (first | refine blk_drewN ?_ _ | refine blk_drew ?_ | refine blk_alloc ?_ _)); exact BK201.out) hb); have n3_ := Aside0.mk (blk_below (g := gb205) (o := .cells #[.int .i64 (wrap64 ((rd_T39 l0 x6_1).f0)), .int .i64 (wrap64 ((rd_T39 l0 x6_1).f1)), .int .i64 (wrap64 ((rd_T39 l0 x6_1).f2))] 38 (0, 0)) (by (with_reducible repeat (first | refine blk_drewN ?_ _ | refine blk_drew ?_ | refine blk_alloc ?_ _)); refine blk_far ?_ NB205_200.out _; (with_reducible repeat (first | refine blk_drewN ?_ _ | refine blk_drew ?_ | refine blk_alloc ?_ _)); refine blk_far ?_ NB205_200.out _; (with_reducible repeat (first | refine blk_drewN ?_ _ | refine blk_drew ?_ | refine blk_alloc ?_ _)); refine blk_far ?_ NB205_200.out _; (with_reducible repeat (first | refine blk_drewN ?_ _ | refine blk_drew ?_ | refine blk_alloc ?_ _)); exact BK205.out) hb); have n4_ := Aside0.mk (blk_below (g := gb215) (o := .cells #[.int .i64 t209, .int .i64 t210, .int .i64 t211] 23 (0, 0)) (by (with_reducible repeat (first | refine blk_drewN ?_ _ | refine blk_drew ?_ | refine blk_alloc ?_ _)); refine blk_far ?_ NB215_200.out _; (with_reducible repeat (first | refine blk_drewN ?_ _ | refine blk_drew ?_ | refine blk_alloc ?_ _)); refine blk_far ?_ NB215_200.out _; (with_reducible repeat (first | refine blk_drewN ?_ _ | refine blk_drew ?_ | refine blk_alloc ?_ _)); refine blk_far ?_ NB215_200.out _; (with_reducible repeat (first | refine blk_drewN ?_ _ | refine blk_drew ?_ | refine blk_alloc ?_ _)); exact BK215.out) hb); have n5_ := Aside0.mk (below_step (by repeat (first | (with_reducible first | exact HB.out | apply below_alloc | apply pw_below_drewN | apply below_drew1 | refine below_set ?_ GE200.out | refine below_set ?_ GE201.out | refine below_set ?_ GE205.out | refine below_set ?_ GE215.out) | exact HB.out)) hb); clear HO_9; clear BK200; clear BK201; clear BK205; clear BK215; clear HB; have HO_9 := n0_; have BK200 := n1_; have BK201 := n2_; have BK205 := n3_; have BK215 := n4_; have HB := n5_; clear n0_ n1_ n2_ n3_ n4_ n5_; (try clear hb); (try clear hb2); (try clear hk); (try clear hi); have hcz131_0 : w130.cell? ⟨gb200, 0, none⟩ = some (.int .i64 t209) := (blk_cell BK200.out 0).trans rfl; have hcz131_1 : w130.cell? ⟨gb200, 1, none⟩ = some (.int .i64 t210) := (blk_cell BK200.out 1).trans rfl; have hcz131_2 : w130.cell? ⟨gb200, 2, none⟩ = some (.int .i64 t211) := (blk_cell BK200.out 2).trans rfl; have hfz131_0 := blk_frozen BK200.out 0; have hfz131_1 := blk_frozen BK200.out 1; have hfz131_2 := blk_frozen BK200.out 2; have hnb132 := NB201_205.out; have hnc132 := NB205_201.out; have hcz133_0 : w130.cell? ⟨gb201, 0, none⟩ = some (.int .i64 x202000_1) := (blk_cell BK201.out 0).trans rfl; have hcz133_1 : w130.cell? ⟨gb201, 1, none⟩ = some (.int .i64 x202001_1) := (blk_cell BK201.out 1).trans rfl; have hcz133_2 : w130.cell? ⟨gb201, 2, none⟩ = some (.int .i64 x202002_1) := (blk_cell BK201.out 2).trans rfl; have hfz133_0 := blk_frozen BK201.out 0; have hfz133_1 := blk_frozen BK201.out 1; have hfz133_2 := blk_frozen BK201.out 2))
                              go_roundg kj11
                              case measure => have := HK1.out; have := HJ11.out; omega
                              case rel => exact ⟨(wrap64 (x6_1 + 1)), (t209), (t210), (t211), (x202000_1), (x202001_1), (x202002_1), (by first | rfl | (simp; done) | (simp [*]; done)), H', ⟨by have := HK1.out; have := HJ11.out; omega⟩, ⟨by (with_reducible repeat (first | refine blk_drewN ?_ _ | refine blk_drew ?_ | refine blk_alloc ?_ _)); exact BK200.out⟩, ⟨by (with_reducible repeat (first | refine blk_drewN ?_ _ | refine blk_drew ?_ | refine blk_alloc ?_ _)); exact BK201.out⟩, ⟨by repeat (first | (with_reducible first | exact HB.out | apply below_alloc | apply pw_below_drewN | apply below_drew1 | refine below_set ?_ GE200.out | refine below_set ?_ GE201.out | refine below_set ?_ GE205.out | refine below_set ?_ GE215.out) | exact HB.out)⟩⟩
                            · rw [if_neg c121] at H
                              have c121b0 : (t211 == (wrap64 ((wrap64 (x202000_1 - x202001_1)) - x202002_1))) = false := beq_eq_false_iff_ne.mpr c121
                              have c121b1 : (t211 != (wrap64 ((wrap64 (x202000_1 - x202001_1)) - x202002_1))) = true := bne_iff_ne.mpr c121
                              exact absurd ((Option.some.inj H).trans hr_) (by simp)
                          · rw [if_neg c120] at H
                            have c120b0 : (t210 == x202001_1) = false := beq_eq_false_iff_ne.mpr c120
                            have c120b1 : (t210 != x202001_1) = true := bne_iff_ne.mpr c120
                            exact absurd ((Option.some.inj H).trans hr_) (by simp)
                        · rw [if_neg c119] at H
                          have c119b0 : (t209 == x202000_1) = false := beq_eq_false_iff_ne.mpr c119
                          have c119b1 : (t209 != x202000_1) = true := bne_iff_ne.mpr c119
                          exact absurd ((Option.some.inj H).trans hr_) (by simp)
                      · replace c118 := Bool.eq_false_iff.mpr c118
                        subst c118
                        have H1 : (some false) = some r := by rw [if_neg (show ¬ (false = true) by decide)] at H; exact H
                        clear H
                        have H := H1
                        clear H1
                        exact absurd ((Option.some.inj H).trans hr_) (by simp)
                  · rw [if_neg c46] at H
                    exact absurd H (by simp)
          · rw [if_neg c10] at H
            exact absurd H (by simp)
        · rw [if_neg c9] at H
          have c9b0 : decide (x6_1 < (l0.length : Int)) = false := decide_eq_false c9
          clear c9
          by_cases c134 : t199 = true
          · subst c134
            have H1 : (some true) = some r := by rw [if_pos rfl] at H; exact H
            clear H
            have H := H1
            clear H1
            obtain rfl := Option.some.inj H
            go_wp2
            go_ret
            exact ⟨by first | rfl | (simp [errW_none, errW_some] <;> rfl) | (simp [*, errW_none, errW_some] <;> rfl), by repeat (first | (with_reducible first | exact HB.out | apply below_alloc | apply pw_below_drewN | apply below_drew1 | refine below_set ?_ GE200.out | refine below_set ?_ GE201.out) | exact HB.out)⟩
          · replace c134 := Bool.eq_false_iff.mpr c134
            subst c134
            have H1 : (some false) = some r := by rw [if_neg (show ¬ (false = true) by decide)] at H; exact H
            clear H
            have H := H1
            clear H1
            exact absurd ((Option.some.inj H).trans hr_) (by simp)

end Go.Proofs.Ytjanmaddjjhjbaa.Hp
