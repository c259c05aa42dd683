/- Functions of the program as Lean functions, each with its contract: the call comes to that answer. Told by wip/tools/handprint.py of this session. -/
import Derived.Test.YtghhjkjdeohmiaaHpx0
import Derived.Test.YtghhjkjdeohmiaaHpx1
import Derived.Test.YtghhjkjdeohmiaaHpx3
import Derived.Test.YtghhjkjdeohmiaaHpx5
import Derived.Test.YtghhjkjdeohmiaaHpx8
import Derived.Test.YtghhjkjdeohmiaaHpx14
namespace Go.Proofs.Ytghhjkjdeohmiaa.Hp
open Go.RowKit Go.Proofs.YtghhjkjdeohmiaaW.PrintWords Go.Proofs.YtghhjkjdeohmiaaW.PrintLast Go.Proofs.YtghhjkjdeohmiaaW.PrintMore
attribute [local go_sem] max2_int min2_int max_two min_two max_three min_three max_four min_four   -- for this text's walks alone
set_option linter.unusedVariables false
set_option linter.unusedSimpArgs false

attribute [local go_sem high] eqA28
/-! ### sawtoothlaw08_LeastRises: function 6 -/
mutual
def sawtoothlaw08_LeastRises.l0 : Nat → List (S28) → Int → Int → Bool → List (S28) → Int → Int → Int → Int → Option (Bool)
  | 0, _, _, _, _, _, _, _, _, _ => none
  | k + 1, x0, x2, x3, x9, x10, x13, x14, x258000, x258001 => if (wrap64 (x14 + 1)) < (x10.length : Int) then (sawtoothlaw08_LeastRises.l1 k x0 x2 x3 x9 x10 x13 x14 x258000 x258001) else (if x9 = true then (if (x258000 == x2 && (x258001 == x3)) = true then ((least_Check.f k x10).bind fun t258 => (if t258 = true then (if (x10.length : Int) ≤ (wrap64 ((x0.length : Int) + 1)) then (some true) else (some false)) else (some false))) else (some false)) else (some false))
def sawtoothlaw08_LeastRises.l1 : Nat → List (S28) → Int → Int → Bool → List (S28) → Int → Int → Int → Int → Option (Bool)
  | 0, _, _, _, _, _, _, _, _, _ => none
  | k + 1, x0, x2, x3, x9, x10, x13, x14, x258000, x258001 => if x13 < (x0.length : Int) then (if 0 ≤ x13 then (if 0 ≤ x14 then (if x14 < (x10.length : Int) then (if (!(((rd_T28 x0 x13).f0) == ((rd_T28 x10 x14).f0)) || (!(((rd_T28 x0 x13).f1) == ((rd_T28 x10 x14).f1)))) = true then (sawtoothlaw08_LeastRises.l1 k x0 x2 x3 x9 x10 (wrap64 (x13 + 1)) x14 x258000 x258001) else (if x13 = (x0.length : Int) then (some false) else (if ((rd_T28 x10 x14).f1) ≥ x3 then (some false) else (sawtoothlaw08_LeastRises.l0 k x0 x2 x3 x9 x10 (wrap64 (x13 + 1)) (wrap64 (x14 + 1)) x258000 x258001)))) else (none)) else (none)) else (none)) else (if x13 = (x0.length : Int) then (some false) else (if 0 ≤ x14 then (if x14 < (x10.length : Int) then (if ((rd_T28 x10 x14).f1) ≥ x3 then (some false) else (sawtoothlaw08_LeastRises.l0 k x0 x2 x3 x9 x10 (wrap64 (x13 + 1)) (wrap64 (x14 + 1)) x258000 x258001)) else (none)) else (none)))
end
def sawtoothlaw08_LeastRises.f (k : Nat) (l0 : List (S28)) (a1 : Int) (a2 : Int) (a3 : Int) : Option (Bool) := (sawtoothlaw08_awake.f k).bind fun t250 => (if (l0.length : Int) > 100 then (if t250 = true then (some true) else (some false)) else ((least_Put.f k l0 a1 a2 a3).bind fun bt251 => (if bt251.2 = 0 then (if (bt251.1.length : Int) = 0 then (some false) else (if 0 ≤ (wrap64 ((bt251.1.length : Int) - 1)) then (if (wrap64 ((bt251.1.length : Int) - 1)) < (bt251.1.length : Int) then (sawtoothlaw08_LeastRises.l0 k l0 a2 a3 t250 bt251.1 0 0 ((rd_T28 bt251.1 (wrap64 ((bt251.1.length : Int) - 1))).f0) ((rd_T28 bt251.1 (wrap64 ((bt251.1.length : Int) - 1))).f1)) else (none)) else (none))) else (if t250 = true then ((sawtoothref08_Same.f k bt251.1 l0).bind fun t255 => (if t255 = true then (some true) else (some false))) else (some false)))))
theorem sawtoothlaw08_LeastRises.mono_l : ∀ k, (∀ y0 y1 y2 y3 y4 y5 y6 y7 y8, LeO (sawtoothlaw08_LeastRises.l0 k y0 y1 y2 y3 y4 y5 y6 y7 y8) (sawtoothlaw08_LeastRises.l0 (k + 1) y0 y1 y2 y3 y4 y5 y6 y7 y8)) ∧ (∀ y0 y1 y2 y3 y4 y5 y6 y7 y8, LeO (sawtoothlaw08_LeastRises.l1 k y0 y1 y2 y3 y4 y5 y6 y7 y8) (sawtoothlaw08_LeastRises.l1 (k + 1) y0 y1 y2 y3 y4 y5 y6 y7 y8))
  | 0 => ⟨fun _ _ _ _ _ _ _ _ _ r h => by simp [sawtoothlaw08_LeastRises.l0] at h, fun _ _ _ _ _ _ _ _ _ r h => by simp [sawtoothlaw08_LeastRises.l1] at h⟩
  | k + 1 => by
    obtain ⟨ih0, ih1⟩ := sawtoothlaw08_LeastRises.mono_l k
    refine ⟨?_, ?_⟩
    · intro y0 y1 y2 y3 y4 y5 y6 y7 y8
      unfold sawtoothlaw08_LeastRises.l0
      repeat' first
      | (with_reducible exact ih0 _ _ _ _ _ _ _ _ _)
      | (with_reducible exact ih1 _ _ _ _ _ _ _ _ _)
      | (with_reducible exact least_Check.mono _ _)
      | (with_reducible exact least_Put.mono _ _ _ _ _)
      | (with_reducible exact sawtoothlaw08_awake.mono _)
      | (with_reducible exact sawtoothref08_Same.mono _ _ _)
      | (with_reducible exact LeO.refl _)
      | (with_reducible exact LeO.none _)
      | (with_reducible refine LeO.ite ?_ ?_)
      | (with_reducible refine LeO.bind ?_ (fun _ => ?_))
      | exact ih0 _ _ _ _ _ _ _ _ _
      | exact ih1 _ _ _ _ _ _ _ _ _
      | exact least_Check.mono _ _
      | exact least_Put.mono _ _ _ _ _
      | exact sawtoothlaw08_awake.mono _
      | exact sawtoothref08_Same.mono _ _ _
      | exact LeO.none _
      | refine LeO.ite ?_ ?_
      | refine LeO.bind ?_ (fun _ => ?_)
    · intro y0 y1 y2 y3 y4 y5 y6 y7 y8
      unfold sawtoothlaw08_LeastRises.l1
      repeat' first
      | (with_reducible exact ih0 _ _ _ _ _ _ _ _ _)
      | (with_reducible exact ih1 _ _ _ _ _ _ _ _ _)
      | (with_reducible exact least_Check.mono _ _)
      | (with_reducible exact least_Put.mono _ _ _ _ _)
      | (with_reducible exact sawtoothlaw08_awake.mono _)
      | (with_reducible exact sawtoothref08_Same.mono _ _ _)
      | (with_reducible exact LeO.refl _)
      | (with_reducible exact LeO.none _)
      | (with_reducible refine LeO.ite ?_ ?_)
      | (with_reducible refine LeO.bind ?_ (fun _ => ?_))
      | exact ih0 _ _ _ _ _ _ _ _ _
      | exact ih1 _ _ _ _ _ _ _ _ _
      | exact least_Check.mono _ _
      | exact least_Put.mono _ _ _ _ _
      | exact sawtoothlaw08_awake.mono _
      | exact sawtoothref08_Same.mono _ _ _
      | exact LeO.none _
      | refine LeO.ite ?_ ?_
      | refine LeO.bind ?_ (fun _ => ?_)
theorem sawtoothlaw08_LeastRises.mono : ∀ a0 a1 a2 a3 k, LeO (sawtoothlaw08_LeastRises.f k a0 a1 a2 a3) (sawtoothlaw08_LeastRises.f (k + 1) a0 a1 a2 a3) := by
  intro a0 a1 a2 a3 k
  obtain ⟨ih0, ih1⟩ := sawtoothlaw08_LeastRises.mono_l k
  unfold sawtoothlaw08_LeastRises.f
  repeat' first
      | (with_reducible exact ih0 _ _ _ _ _ _ _ _ _)
      | (with_reducible exact ih1 _ _ _ _ _ _ _ _ _)
      | (with_reducible exact least_Check.mono _ _)
      | (with_reducible exact least_Put.mono _ _ _ _ _)
      | (with_reducible exact sawtoothlaw08_awake.mono _)
      | (with_reducible exact sawtoothref08_Same.mono _ _ _)
      | (with_reducible exact LeO.refl _)
      | (with_reducible exact LeO.none _)
      | (with_reducible refine LeO.ite ?_ ?_)
      | (with_reducible refine LeO.bind ?_ (fun _ => ?_))
      | exact ih0 _ _ _ _ _ _ _ _ _
      | exact ih1 _ _ _ _ _ _ _ _ _
      | exact least_Check.mono _ _
      | exact least_Put.mono _ _ _ _ _
      | exact sawtoothlaw08_awake.mono _
      | exact sawtoothref08_Same.mono _ _ _
      | exact LeO.none _
      | refine LeO.ite ?_ ?_
      | refine LeO.bind ?_ (fun _ => ?_)
set_option maxHeartbeats 8000000 in
set_option maxRecDepth 100000 in
theorem sawtoothlaw08_LeastRises.calls (k : Nat) (A0 : Option Addr) (c0 : Nat) (l0 : List (S28)) (a1 : Int) (a2 : Int) (a3 : Int) (r : Bool) (w : World) (hr0 : Kd.C k28 w A0 l0.length l0) (hc0 : l0.length ≤ c0) (h : sawtoothlaw08_LeastRises.f k l0 a1 a2 a3 = some r) (hr_ : r = true) :
    Calls Try.prog 6 #[.slice A0 l0.length c0, .int .i64 a1, .int .i64 a2, .int .i64 a3] w fun e w' => e = .returned (.bool r) ∧ Below w.heap.size w w' := by
  have hu28 := Try.underlying28
  have HR0 := Aside0.mk hr0
  have HC0 := Aside0.mk hc0
  clear hr0 hc0
  have HB := Aside0.mk (Below.refl w.heap.size w)
  have H : ((sawtoothlaw08_awake.f k).bind fun t250 => (if (l0.length : Int) > 100 then (if t250 = true then (some true) else (some false)) else ((least_Put.f k l0 a1 a2 a3).bind fun bt251 => (if bt251.2 = 0 then (if (bt251.1.length : Int) = 0 then (some false) else (if 0 ≤ (wrap64 ((bt251.1.length : Int) - 1)) then (if (wrap64 ((bt251.1.length : Int) - 1)) < (bt251.1.length : Int) then (sawtoothlaw08_LeastRises.l0 k l0 a2 a3 t250 bt251.1 0 0 ((rd_T28 bt251.1 (wrap64 ((bt251.1.length : Int) - 1))).f0) ((rd_T28 bt251.1 (wrap64 ((bt251.1.length : Int) - 1))).f1)) else (none)) else (none))) else (if t250 = true then ((sawtoothref08_Same.f k bt251.1 l0).bind fun t255 => (if t255 = true then (some true) else (some false))) else (some false)))))) = some r := h
  clear h
  replace H := Option.bind_eq_some_iff.mp H
  obtain ⟨t250, A50, H⟩ := H
  replace H : (if (l0.length : Int) > 100 then (if t250 = true then (some true) else (some false)) else ((least_Put.f k l0 a1 a2 a3).bind fun bt251 => (if bt251.2 = 0 then (if (bt251.1.length : Int) = 0 then (some false) else (if 0 ≤ (wrap64 ((bt251.1.length : Int) - 1)) then (if (wrap64 ((bt251.1.length : Int) - 1)) < (bt251.1.length : Int) then (sawtoothlaw08_LeastRises.l0 k l0 a2 a3 t250 bt251.1 0 0 ((rd_T28 bt251.1 (wrap64 ((bt251.1.length : Int) - 1))).f0) ((rd_T28 bt251.1 (wrap64 ((bt251.1.length : Int) - 1))).f1)) else (none)) else (none))) else (if t250 = true then ((sawtoothref08_Same.f k bt251.1 l0).bind fun t255 => (if t255 = true then (some true) else (some false))) else (some false))))) = some r := H
  have A5 := Aside0.mk A50
  clear A50
  by_cases c6 : (l0.length : Int) > 100
  · rw [if_pos c6] at H
    have c6b0 : decide (100 < (l0.length : Int)) = true := decide_eq_true c6
    have c6b1 : decide (100 < l0.length) = true := decide_eq_true (by omega)
    clear c6
    by_cases c7 : t250 = true
    · subst c7
      have H1 : (some true) = some r := by rw [if_pos rfl] at H; exact H
      clear H
      have H := H1
      clear H1
      obtain rfl := Option.some.inj H
      go_enter Try.func6, Try.ntmps6
      go_wp2_with (first | (go_at_call 9; (with_reducible refine (sawtoothlaw08_awake.calls k  true _ A5.out).mono ?_); rintro e w8 ⟨rfl, hb⟩; have n0_ := Aside0.mk (below_step (by repeat (first | (with_reducible first | exact HB.out | apply below_alloc | apply pw_below_drewN | apply below_drew1) | exact HB.out)) hb); clear HB; have HB := n0_; clear n0_; (try clear hb); (try clear hb2); (try clear hk); (try clear hi)))
      repeat (go_quiet (first | (go_at_call 9; (with_reducible refine (sawtoothlaw08_awake.calls k  true _ A5.out).mono ?_); rintro e w8 ⟨rfl, hb⟩; have n0_ := Aside0.mk (below_step (by repeat (first | (with_reducible first | exact HB.out | apply below_alloc | apply pw_below_drewN | apply below_drew1) | exact HB.out)) hb); clear HB; have HB := n0_; clear n0_; (try clear hb); (try clear hb2); (try clear hk); (try clear hi))); try go_wp2_with (first | (go_at_call 9; (with_reducible refine (sawtoothlaw08_awake.calls k  true _ A5.out).mono ?_); rintro e w8 ⟨rfl, hb⟩; have n0_ := Aside0.mk (below_step (by repeat (first | (with_reducible first | exact HB.out | apply below_alloc | apply pw_below_drewN | apply below_drew1) | exact HB.out)) hb); clear HB; have HB := n0_; clear n0_; (try clear hb); (try clear hb2); (try clear hk); (try clear hi))))
      go_ret
      exact ⟨by first | rfl | (simp [errW_none, errW_some] <;> rfl) | (simp [*, errW_none, errW_some] <;> rfl), by repeat (first | (with_reducible first | exact HB.out | apply below_alloc | apply pw_below_drewN | apply below_drew1) | exact HB.out)⟩
    · replace c7 := Bool.eq_false_iff.mpr c7
      subst c7
      have H1 : (some false) = some r := by rw [if_neg (show ¬ (false = true) by decide)] at H; exact H
      clear H
      have H := H1
      clear H1
      exact absurd ((Option.some.inj H).trans hr_) (by simp)
  · rw [if_neg c6] at H
    have c6b0 : decide (100 < (l0.length : Int)) = false := decide_eq_false c6
    have c6b1 : decide (100 < l0.length) = false := decide_eq_false (by omega)
    clear c6
    replace H := Option.bind_eq_some_iff.mp H
    obtain ⟨⟨t251, t254⟩, A90, H⟩ := H
    replace H : (if t254 = 0 then (if (t251.length : Int) = 0 then (some false) else (if 0 ≤ (wrap64 ((t251.length : Int) - 1)) then (if (wrap64 ((t251.length : Int) - 1)) < (t251.length : Int) then (sawtoothlaw08_LeastRises.l0 k l0 a2 a3 t250 t251 0 0 ((rd_T28 t251 (wrap64 ((t251.length : Int) - 1))).f0) ((rd_T28 t251 (wrap64 ((t251.length : Int) - 1))).f1)) else (none)) else (none))) else (if t250 = true then ((sawtoothref08_Same.f k t251 l0).bind fun t255 => (if t255 = true then (some true) else (some false))) else (some false))) = some r := H
    have A9 := Aside0.mk A90
    clear A90
    by_cases c10 : t254 = 0
    · rw [if_pos c10] at H
      have c10b0 : (t254 == 0) = true := beq_iff_eq.mpr c10
      have c10b1 : (t254 != 0) = false := bne_eq_false_iff_eq.mpr c10
      clear c10
      by_cases c11 : (t251.length : Int) = 0
      · rw [if_pos c11] at H
        have c11b0 : ((t251.length : Int) == 0) = true := beq_iff_eq.mpr c11
        have c11b1 : ((t251.length : Int) != 0) = false := bne_eq_false_iff_eq.mpr c11
        clear c11
        exact absurd ((Option.some.inj H).trans hr_) (by simp)
      · rw [if_neg c11] at H
        have c11b0 : ((t251.length : Int) == 0) = false := beq_eq_false_iff_ne.mpr c11
        have c11b1 : ((t251.length : Int) != 0) = true := bne_iff_ne.mpr c11
        have c11b2 : ¬ (t251 = []) := fun h_ => c11 (by rw [h_]; rfl)
        obtain ⟨ji12, hji12⟩ : ∃ j_ : Int, (wrap64 ((t251.length : Int) - 1)) = j_ := ⟨_, rfl⟩
        replace H : (if 0 ≤ (ji12) then (if (ji12) < (t251.length : Int) then (sawtoothlaw08_LeastRises.l0 k l0 a2 a3 t250 t251 0 0 ((rd_T28 t251 (ji12)).f0) ((rd_T28 t251 (ji12)).f1)) else (none)) else (none)) = some r := by first | (rw [hji12] at H; exact H) | (simp only [hji12] at H ⊢; exact H)
        (try rw [hji12] at A5)
        (try rw [hji12] at A9)
        have hji12w : (IntKind.i64.wrap ((t251.length : Int) - 1)) = ji12 := (i64_w _).trans hji12
        by_cases c13 : 0 ≤ (ji12)
        · rw [if_pos c13] at H
          have c13b0 : decide (0 ≤ (ji12)) = true := decide_eq_true c13
          clear c13
          by_cases c14 : (ji12) < (t251.length : Int)
          · rw [if_pos c14] at H
            have c14b0 : decide ((ji12) < (t251.length : Int)) = true := decide_eq_true c14
            clear c14
            have H' := Aside0.mk H
            clear H
            go_enter Try.func6, Try.ntmps6
            go_wp2_with (first | (go_at_call 9; (with_reducible refine (sawtoothlaw08_awake.calls k  t250 _ A5.out).mono ?_); rintro e w15 ⟨rfl, hb⟩; have n0_ := Aside0.mk (below_step (by repeat (first | (with_reducible first | exact HB.out | apply below_alloc | apply pw_below_drewN | apply below_drew1) | exact HB.out)) hb); clear HB; have HB := n0_; clear n0_; (try clear hb); (try clear hb2); (try clear hk); (try clear hi)) | (go_at_call 10; (with_reducible refine (least_Put.calls k _ _ l0 a1 a2 a3 t251 t254 _ ?side1 ?side2 A9.out).mono ?_); (case side1 => repeat (first | exact (Kd.C_below HR0.out HB.out) | (with_reducible refine Kd.C_alloc ?_ _) | (with_reducible refine Kd.C_drewN ?_ _) | (with_reducible refine Kd.C_drew ?_))); (case side2 => exact HC0.out); rintro e w16 ⟨v252, rfl, ho0, hb⟩; have n0_ := Aside0.mk (Kd.V_lower (Kd.V_mono (ok' := fun k_ => True) ho0 (fun k_ hk_ => trivial)) (below_size (by repeat (first | (with_reducible first | exact HB.out | apply below_alloc | apply pw_below_drewN | apply below_drew1) | exact HB.out)))); have n1_ := Aside0.mk (below_step (by repeat (first | (with_reducible first | exact HB.out | apply below_alloc | apply pw_below_drewN | apply below_drew1) | exact HB.out)) hb); clear HB; have HO253 := n0_; have HB := n1_; clear n0_ n1_; (try clear hb); (try clear hb2); (try clear hk); (try clear hi); (try clear ho0); obtain ⟨Ao17, co17, eo17⟩ := Kd.V_slice HO253.out; subst eo17; have p256 : 0 ≤ ((ji12) : Int) := of_decide_eq_true (by first | (with_reducible assumption) | assumption); have q256 : (ji12) < (t251.length : Int) := of_decide_eq_true (by first | (with_reducible assumption) | assumption); obtain ⟨ad256, e256, hx256_0, hx256_1⟩ := at_T28 (Kd.V_reads' HO253.out).2.2 (ji12) p256 q256; cases e256; replace p256 := eq_true p256; replace q256 := eq_true q256) | ((with_reducible refine gate_dst (N := 12) rfl ?_); (try (refine gate_guard (by rfl) ?_; dsimp only)); refine box_event ?hg (N := 12) ?hd (cs := #[.int .i64 0, .int .i64 0]) (t := 28) ?hr ?_; (case hd => rfl); (case hg => rfl); (case hr => first | (go_simp; done) | (go_simp; rfl)); intro gb257 hg w18 hbox hb; have n0_ := Aside0.mk (Kd.V_below (Kd.V_elderB (by (with_reducible repeat (first | apply Kd.V_alloc | apply Kd.V_drewN | apply Kd.V_drew)); exact HO253.out) gb257 (Nat.le_of_eq hg.symm)) hb); have n1_ := Aside0.mk (below_step (by repeat (first | (with_reducible first | exact HB.out | apply below_alloc | apply pw_below_drewN | apply below_drew1) | exact HB.out)) hb); have n2_ := Aside0.mk (hbox); have n3_ := Aside0.mk ((by rw [hg]; exact (below_size (by repeat (first | (with_reducible first | exact HB.out | apply below_alloc | apply pw_below_drewN | apply below_drew1) | exact HB.out))) : w.heap.size ≤ gb257)); have n4_ := Aside0.mk ((by rw [hg]; exact (below_size (by repeat (first | (with_reducible first | exact HB.out | apply below_alloc | apply pw_below_drewN | apply below_drew1) | exact HB.out))) : w.heap.size ≤ gb257)); clear HO253; clear HB; have HO253 := n0_; have HB := n1_; have BK257 := n2_; have GW257 := n3_; have GE257 := n4_; clear n0_ n1_ n2_ n3_ n4_; clear hb hbox hg; have hcz19_0 : w18.cell? ⟨gb257, 0, none⟩ = some (.int .i64 0) := (blk_cell BK257.out 0).trans rfl; have hcz19_1 : w18.cell? ⟨gb257, 1, none⟩ = some (.int .i64 0) := (blk_cell BK257.out 1).trans rfl; have hfz19_0 := blk_frozen BK257.out 0; have hfz19_1 := blk_frozen BK257.out 1))
            repeat (go_quiet (first | (go_at_call 9; (with_reducible refine (sawtoothlaw08_awake.calls k  t250 _ A5.out).mono ?_); rintro e w15 ⟨rfl, hb⟩; have n0_ := Aside0.mk (below_step (by repeat (first | (with_reducible first | exact HB.out | apply below_alloc | apply pw_below_drewN | apply below_drew1) | exact HB.out)) hb); clear HB; have HB := n0_; clear n0_; (try clear hb); (try clear hb2); (try clear hk); (try clear hi)) | (go_at_call 10; (with_reducible refine (least_Put.calls k _ _ l0 a1 a2 a3 t251 t254 _ ?side1 ?side2 A9.out).mono ?_); (case side1 => repeat (first | exact (Kd.C_below HR0.out HB.out) | (with_reducible refine Kd.C_alloc ?_ _) | (with_reducible refine Kd.C_drewN ?_ _) | (with_reducible refine Kd.C_drew ?_))); (case side2 => exact HC0.out); rintro e w16 ⟨v252, rfl, ho0, hb⟩; have n0_ := Aside0.mk (Kd.V_lower (Kd.V_mono (ok' := fun k_ => True) ho0 (fun k_ hk_ => trivial)) (below_size (by repeat (first | (with_reducible first | exact HB.out | apply below_alloc | apply pw_below_drewN | apply below_drew1) | exact HB.out)))); have n1_ := Aside0.mk (below_step (by repeat (first | (with_reducible first | exact HB.out | apply below_alloc | apply pw_below_drewN | apply below_drew1) | exact HB.out)) hb); clear HB; have HO253 := n0_; have HB := n1_; clear n0_ n1_; (try clear hb); (try clear hb2); (try clear hk); (try clear hi); (try clear ho0); obtain ⟨Ao17, co17, eo17⟩ := Kd.V_slice HO253.out; subst eo17; have p256 : 0 ≤ ((ji12) : Int) := of_decide_eq_true (by first | (with_reducible assumption) | assumption); have q256 : (ji12) < (t251.length : Int) := of_decide_eq_true (by first | (with_reducible assumption) | assumption); obtain ⟨ad256, e256, hx256_0, hx256_1⟩ := at_T28 (Kd.V_reads' HO253.out).2.2 (ji12) p256 q256; cases e256; replace p256 := eq_true p256; replace q256 := eq_true q256) | ((with_reducible refine gate_dst (N := 12) rfl ?_); (try (refine gate_guard (by rfl) ?_; dsimp only)); refine box_event ?hg (N := 12) ?hd (cs := #[.int .i64 0, .int .i64 0]) (t := 28) ?hr ?_; (case hd => rfl); (case hg => rfl); (case hr => first | (go_simp; done) | (go_simp; rfl)); intro gb257 hg w18 hbox hb; have n0_ := Aside0.mk (Kd.V_below (Kd.V_elderB (by (with_reducible repeat (first | apply Kd.V_alloc | apply Kd.V_drewN | apply Kd.V_drew)); exact HO253.out) gb257 (Nat.le_of_eq hg.symm)) hb); have n1_ := Aside0.mk (below_step (by repeat (first | (with_reducible first | exact HB.out | apply below_alloc | apply pw_below_drewN | apply below_drew1) | exact HB.out)) hb); have n2_ := Aside0.mk (hbox); have n3_ := Aside0.mk ((by rw [hg]; exact (below_size (by repeat (first | (with_reducible first | exact HB.out | apply below_alloc | apply pw_below_drewN | apply below_drew1) | exact HB.out))) : w.heap.size ≤ gb257)); have n4_ := Aside0.mk ((by rw [hg]; exact (below_size (by repeat (first | (with_reducible first | exact HB.out | apply below_alloc | apply pw_below_drewN | apply below_drew1) | exact HB.out))) : w.heap.size ≤ gb257)); clear HO253; clear HB; have HO253 := n0_; have HB := n1_; have BK257 := n2_; have GW257 := n3_; have GE257 := n4_; clear n0_ n1_ n2_ n3_ n4_; clear hb hbox hg; have hcz19_0 : w18.cell? ⟨gb257, 0, none⟩ = some (.int .i64 0) := (blk_cell BK257.out 0).trans rfl; have hcz19_1 : w18.cell? ⟨gb257, 1, none⟩ = some (.int .i64 0) := (blk_cell BK257.out 1).trans rfl; have hfz19_0 := blk_frozen BK257.out 0; have hfz19_1 := blk_frozen BK257.out 1)); try go_wp2_with (first | (go_at_call 9; (with_reducible refine (sawtoothlaw08_awake.calls k  t250 _ A5.out).mono ?_); rintro e w15 ⟨rfl, hb⟩; have n0_ := Aside0.mk (below_step (by repeat (first | (with_reducible first | exact HB.out | apply below_alloc | apply pw_below_drewN | apply below_drew1) | exact HB.out)) hb); clear HB; have HB := n0_; clear n0_; (try clear hb); (try clear hb2); (try clear hk); (try clear hi)) | (go_at_call 10; (with_reducible refine (least_Put.calls k _ _ l0 a1 a2 a3 t251 t254 _ ?side1 ?side2 A9.out).mono ?_); (case side1 => repeat (first | exact (Kd.C_below HR0.out HB.out) | (with_reducible refine Kd.C_alloc ?_ _) | (with_reducible refine Kd.C_drewN ?_ _) | (with_reducible refine Kd.C_drew ?_))); (case side2 => exact HC0.out); rintro e w16 ⟨v252, rfl, ho0, hb⟩; have n0_ := Aside0.mk (Kd.V_lower (Kd.V_mono (ok' := fun k_ => True) ho0 (fun k_ hk_ => trivial)) (below_size (by repeat (first | (with_reducible first | exact HB.out | apply below_alloc | apply pw_below_drewN | apply below_drew1) | exact HB.out)))); have n1_ := Aside0.mk (below_step (by repeat (first | (with_reducible first | exact HB.out | apply below_alloc | apply pw_below_drewN | apply below_drew1) | exact HB.out)) hb); clear HB; have HO253 := n0_; have HB := n1_; clear n0_ n1_; (try clear hb); (try clear hb2); (try clear hk); (try clear hi); (try clear ho0); obtain ⟨Ao17, co17, eo17⟩ := Kd.V_slice HO253.out; subst eo17; have p256 : 0 ≤ ((ji12) : Int) := of_decide_eq_true (by first | (with_reducible assumption) | assumption); have q256 : (ji12) < (t251.length : Int) := of_decide_eq_true (by first | (with_reducible assumption) | assumption); obtain ⟨ad256, e256, hx256_0, hx256_1⟩ := at_T28 (Kd.V_reads' HO253.out).2.2 (ji12) p256 q256; cases e256; replace p256 := eq_true p256; replace q256 := eq_true q256) | ((with_reducible refine gate_dst (N := 12) rfl ?_); (try (refine gate_guard (by rfl) ?_; dsimp only)); refine box_event ?hg (N := 12) ?hd (cs := #[.int .i64 0, .int .i64 0]) (t := 28) ?hr ?_; (case hd => rfl); (case hg => rfl); (case hr => first | (go_simp; done) | (go_simp; rfl)); intro gb257 hg w18 hbox hb; have n0_ := Aside0.mk (Kd.V_below (Kd.V_elderB (by (with_reducible repeat (first | apply Kd.V_alloc | apply Kd.V_drewN | apply Kd.V_drew)); exact HO253.out) gb257 (Nat.le_of_eq hg.symm)) hb); have n1_ := Aside0.mk (below_step (by repeat (first | (with_reducible first | exact HB.out | apply below_alloc | apply pw_below_drewN | apply below_drew1) | exact HB.out)) hb); have n2_ := Aside0.mk (hbox); have n3_ := Aside0.mk ((by rw [hg]; exact (below_size (by repeat (first | (with_reducible first | exact HB.out | apply below_alloc | apply pw_below_drewN | apply below_drew1) | exact HB.out))) : w.heap.size ≤ gb257)); have n4_ := Aside0.mk ((by rw [hg]; exact (below_size (by repeat (first | (with_reducible first | exact HB.out | apply below_alloc | apply pw_below_drewN | apply below_drew1) | exact HB.out))) : w.heap.size ≤ gb257)); clear HO253; clear HB; have HO253 := n0_; have HB := n1_; have BK257 := n2_; have GW257 := n3_; have GE257 := n4_; clear n0_ n1_ n2_ n3_ n4_; clear hb hbox hg; have hcz19_0 : w18.cell? ⟨gb257, 0, none⟩ = some (.int .i64 0) := (blk_cell BK257.out 0).trans rfl; have hcz19_1 : w18.cell? ⟨gb257, 1, none⟩ = some (.int .i64 0) := (blk_cell BK257.out 1).trans rfl; have hfz19_0 := blk_frozen BK257.out 0; have hfz19_1 := blk_frozen BK257.out 1)))
            go_loopg [13, 14] k (fun kq v13 v14 w' => ∃ (x13_1 : Int) (x14_1 : Int), v13 = .int .i64 x13_1 ∧ v14 = .int .i64 x14_1 ∧ Aside0 (sawtoothlaw08_LeastRises.l0 kq l0 a2 a3 t250 t251 x13_1 x14_1 ((rd_T28 t251 (ji12)).f0) ((rd_T28 t251 (ji12)).f1) = some r) ∧ Aside0 (kq ≤ k) ∧ Aside0 (Kd.V k28 28 w' w.heap.size (fun k_ => k_ ≠ gb257) (.slice (some ad256) t251.length co17) t251) ∧ Aside0 (w'.heap[gb257]? = some (.cells #[.int .i64 ((rd_T28 t251 (ji12)).f0), .int .i64 ((rd_T28 t251 (ji12)).f1)] 28 (0, 0))) ∧ Aside0 (Below w.heap.size w w'))
            case atStart => exact ⟨(0), (0), (by first | rfl | (simp; done) | (simp [*]; done)), (by first | rfl | (simp; done) | (simp [*]; done)), H', ⟨Nat.le_refl _⟩, ⟨by (with_reducible repeat (first | apply Kd.V_alloc | apply Kd.V_drewN | apply Kd.V_drew)); exact Kd.V_mono (Kd.V_far (p := ⟨gb257, 1, none⟩) (Kd.V_far (p := ⟨gb257, 0, none⟩) (Kd.V_mono HO253.out (fun k_ hk => (⟨hk, hk.2⟩ : _ ∧ k_ ≠ gb257))) (fun _ hk => hk.2) (.int .i64 ((rd_T28 t251 (ji12)).f0))) (fun _ hk => hk.2) (.int .i64 ((rd_T28 t251 (ji12)).f1))) (fun _ hk => hk.1.2)⟩, ⟨by (with_reducible repeat (first | refine blk_drewN ?_ _ | refine blk_drew ?_ | refine blk_alloc ?_ _)); refine blk_put (cs := #[.int .i64 ((rd_T28 t251 (ji12)).f0), .int .i64 0]) ?_ 1 _ rfl; (with_reducible repeat (first | refine blk_drewN ?_ _ | refine blk_drew ?_ | refine blk_alloc ?_ _)); refine blk_put (cs := #[.int .i64 0, .int .i64 0]) ?_ 0 _ rfl; (with_reducible repeat (first | refine blk_drewN ?_ _ | refine blk_drew ?_ | refine blk_alloc ?_ _)); exact BK257.out⟩, ⟨by repeat (first | (with_reducible first | exact HB.out | apply below_alloc | apply pw_below_drewN | apply below_drew1 | refine below_set ?_ GE257.out) | exact HB.out)⟩⟩
            case round =>
              clear H'
              try clear c1
              try clear p2
              try clear q2
              try clear hx2
              try clear c6
              try clear c6b0
              try clear c6b1
              try clear p6
              try clear c7
              try clear c10
              try clear c10b0
              try clear c10b1
              try clear c11
              try clear c11b0
              try clear c11b1
              try clear c11b2
              try clear c13
              try clear c13b0
              try clear c14
              try clear c14b0
              try clear hcz19_0
              try clear hcz19_1
              try clear hfz19_0
              try clear hfz19_1
              try clear hx256_0
              try clear hx256_1
              try clear p256
              try clear q256
              obtain ⟨x13_1, x14_1, rfl, rfl, HA, HK1, HO_10, BK257, HB⟩ := hrel
              cases gk with
              | zero => exact absurd HA.out (by simp [sawtoothlaw08_LeastRises.l0])
              | succ k1 =>
                have H := HA.out
                clear HA
                simp only [sawtoothlaw08_LeastRises.l0] at H
                by_cases c20 : (wrap64 (x14_1 + 1)) < (t251.length : Int)
                · rw [if_pos c20] at H
                  have c20b0 : decide ((wrap64 (x14_1 + 1)) < (t251.length : Int)) = true := decide_eq_true c20
                  clear c20
                  have H' := Aside0.mk H
                  clear H
                  go_wp2
                  repeat (go_quiet (fail); try go_wp2)
                  go_loopg [13] k1 (fun kq v13 w' => ∃ (x13_2 : Int), v13 = .int .i64 x13_2 ∧ Aside0 (sawtoothlaw08_LeastRises.l1 kq l0 a2 a3 t250 t251 x13_2 x14_1 ((rd_T28 t251 (ji12)).f0) ((rd_T28 t251 (ji12)).f1) = some r) ∧ Aside0 (kq ≤ k1) ∧ Aside0 (Kd.V k28 28 w' w.heap.size (fun k_ => k_ ≠ gb257) (.slice (some ad256) t251.length co17) t251) ∧ Aside0 (w'.heap[gb257]? = some (.cells #[.int .i64 ((rd_T28 t251 (ji12)).f0), .int .i64 ((rd_T28 t251 (ji12)).f1)] 28 (0, 0))) ∧ Aside0 (Below w.heap.size w w'))
                  case atStart => exact ⟨(x13_1), (by first | rfl | (simp; done) | (simp [*]; done)), H', ⟨Nat.le_refl _⟩, ⟨by (with_reducible repeat (first | apply Kd.V_alloc | apply Kd.V_drewN | apply Kd.V_drew)); exact HO_10.out⟩, ⟨by (with_reducible repeat (first | refine blk_drewN ?_ _ | refine blk_drew ?_ | refine blk_alloc ?_ _)); exact BK257.out⟩, ⟨by repeat (first | (with_reducible first | exact HB.out | apply below_alloc | apply pw_below_drewN | apply below_drew1 | refine below_set ?_ GE257.out) | exact HB.out)⟩⟩
                  case round =>
                    clear H'
                    try clear c1
                    try clear c2
                    try clear p2
                    try clear q2
                    try clear hx2
                    try clear c6
                    try clear c6b0
                    try clear c6b1
                    try clear p6
                    try clear c7
                    try clear c10
                    try clear c10b0
                    try clear c10b1
                    try clear c11
                    try clear c11b0
                    try clear c11b1
                    try clear c11b2
                    try clear c13
                    try clear c13b0
                    try clear c14
                    try clear c14b0
                    try clear c20
                    try clear c20b0
                    try clear hcz19_0
                    try clear hcz19_1
                    try clear hfz19_0
                    try clear hfz19_1
                    try clear hx256_0
                    try clear hx256_1
                    try clear p2
                    try clear p256
                    try clear p6
                    try clear q2
                    try clear q256
                    obtain ⟨x13_2, rfl, HA, HK2, HO_10, BK257, HB⟩ := hrel
                    cases gk with
                    | zero => exact absurd HA.out (by simp [sawtoothlaw08_LeastRises.l1])
                    | succ k2 =>
                      have H := HA.out
                      clear HA
                      simp only [sawtoothlaw08_LeastRises.l1] at H
                      by_cases c21 : x13_2 < (l0.length : Int)
                      · rw [if_pos c21] at H
                        have c21b0 : decide (x13_2 < (l0.length : Int)) = true := decide_eq_true c21
                        clear c21
                        by_cases c22 : 0 ≤ x13_2
                        · rw [if_pos c22] at H
                          have c22b0 : decide (0 ≤ x13_2) = true := decide_eq_true c22
                          clear c22
                          by_cases c23 : 0 ≤ x14_1
                          · rw [if_pos c23] at H
                            have c23b0 : decide (0 ≤ x14_1) = true := decide_eq_true c23
                            clear c23
                            by_cases c24 : x14_1 < (t251.length : Int)
                            · rw [if_pos c24] at H
                              have c24b0 : decide (x14_1 < (t251.length : Int)) = true := decide_eq_true c24
                              clear c24
                              by_cases c25 : (!(((rd_T28 l0 x13_2).f0) == ((rd_T28 t251 x14_1).f0)) || (!(((rd_T28 l0 x13_2).f1) == ((rd_T28 t251 x14_1).f1)))) = true
                              · rw [if_pos c25] at H
                                have c25b0 : (!(((rd_T28 l0 x13_2).f0) == ((rd_T28 t251 x14_1).f0)) || (!(((rd_T28 l0 x13_2).f1) == ((rd_T28 t251 x14_1).f1)))) = true := c25
                                clear c25
                                have H' := Aside0.mk H
                                clear H
                                have p259 : 0 ≤ (x13_2 : Int) := of_decide_eq_true (by first | (with_reducible assumption) | assumption)
                                have q259 : x13_2 < (l0.length : Int) := of_decide_eq_true (by first | (with_reducible assumption) | assumption)
                                obtain ⟨ad259, e259, hx259_0, hx259_1⟩ := at_T28 HR0.out x13_2 p259 q259
                                cases e259
                                replace hx259_0 := (HB.out.cell (World.block_lt_of_cell? w _ hx259_0)).trans hx259_0
                                replace hx259_1 := (HB.out.cell (World.block_lt_of_cell? w _ hx259_1)).trans hx259_1
                                replace p259 := eq_true p259
                                replace q259 := eq_true q259
                                have p260 : 0 ≤ (x14_1 : Int) := of_decide_eq_true (by first | (with_reducible assumption) | assumption)
                                have q260 : x14_1 < (t251.length : Int) := of_decide_eq_true (by first | (with_reducible assumption) | assumption)
                                obtain ⟨ad260, e260, hx260_0, hx260_1⟩ := at_T28 (Kd.V_reads' HO_10.out).2.2 x14_1 p260 q260
                                obtain rfl : ad256 = ad260 := (by injection e260)
                                replace p260 := eq_true p260
                                replace q260 := eq_true q260
                                go_wp2
                                repeat (go_quiet (fail); try go_wp2)
                                go_roundg k2
                                case measure => have := HK1.out; have := HK2.out; omega
                                case rel => exact ⟨(wrap64 (x13_2 + 1)), (by first | rfl | (simp; done) | (simp [*]; done)), H', ⟨by have := HK1.out; have := HK2.out; omega⟩, ⟨by (with_reducible repeat (first | apply Kd.V_alloc | apply Kd.V_drewN | apply Kd.V_drew)); exact HO_10.out⟩, ⟨by (with_reducible repeat (first | refine blk_drewN ?_ _ | refine blk_drew ?_ | refine blk_alloc ?_ _)); exact BK257.out⟩, ⟨by repeat (first | (with_reducible first | exact HB.out | apply below_alloc | apply pw_below_drewN | apply below_drew1 | refine below_set ?_ GE257.out) | exact HB.out)⟩⟩
                              · rw [if_neg c25] at H
                                have c25b0 : (!(((rd_T28 l0 x13_2).f0) == ((rd_T28 t251 x14_1).f0)) || (!(((rd_T28 l0 x13_2).f1) == ((rd_T28 t251 x14_1).f1)))) = false := by simpa using c25
                                clear c25
                                by_cases c26 : x13_2 = (l0.length : Int)
                                · rw [if_pos c26] at H
                                  have c26b0 : (x13_2 == (l0.length : Int)) = true := beq_iff_eq.mpr c26
                                  have c26b1 : (x13_2 != (l0.length : Int)) = false := bne_eq_false_iff_eq.mpr c26
                                  clear c26
                                  exact absurd ((Option.some.inj H).trans hr_) (by simp)
                                · rw [if_neg c26] at H
                                  have c26b0 : (x13_2 == (l0.length : Int)) = false := beq_eq_false_iff_ne.mpr c26
                                  have c26b1 : (x13_2 != (l0.length : Int)) = true := bne_iff_ne.mpr c26
                                  by_cases c27 : ((rd_T28 t251 x14_1).f1) ≥ a3
                                  · rw [if_pos c27] at H
                                    have c27b0 : decide (a3 ≤ ((rd_T28 t251 x14_1).f1)) = true := decide_eq_true c27
                                    clear c27
                                    exact absurd ((Option.some.inj H).trans hr_) (by simp)
                                  · rw [if_neg c27] at H
                                    have c27b0 : decide (a3 ≤ ((rd_T28 t251 x14_1).f1)) = false := decide_eq_false c27
                                    clear c27
                                    have H' := Aside0.mk H
                                    clear H
                                    have p259 : 0 ≤ (x13_2 : Int) := of_decide_eq_true (by first | (with_reducible assumption) | assumption)
                                    have q259 : x13_2 < (l0.length : Int) := of_decide_eq_true (by first | (with_reducible assumption) | assumption)
                                    obtain ⟨ad259, e259, hx259_0, hx259_1⟩ := at_T28 HR0.out x13_2 p259 q259
                                    cases e259
                                    replace hx259_0 := (HB.out.cell (World.block_lt_of_cell? w _ hx259_0)).trans hx259_0
                                    replace hx259_1 := (HB.out.cell (World.block_lt_of_cell? w _ hx259_1)).trans hx259_1
                                    replace p259 := eq_true p259
                                    replace q259 := eq_true q259
                                    have p260 : 0 ≤ (x14_1 : Int) := of_decide_eq_true (by first | (with_reducible assumption) | assumption)
                                    have q260 : x14_1 < (t251.length : Int) := of_decide_eq_true (by first | (with_reducible assumption) | assumption)
                                    obtain ⟨ad260, e260, hx260_0, hx260_1⟩ := at_T28 (Kd.V_reads' HO_10.out).2.2 x14_1 p260 q260
                                    obtain rfl : ad256 = ad260 := (by injection e260)
                                    replace p260 := eq_true p260
                                    replace q260 := eq_true q260
                                    have p261 : 0 ≤ (x14_1 : Int) := of_decide_eq_true (by first | (with_reducible assumption) | assumption)
                                    have q261 : x14_1 < (t251.length : Int) := of_decide_eq_true (by first | (with_reducible assumption) | assumption)
                                    obtain ⟨ad261, e261, hx261_0, hx261_1⟩ := at_T28 (Kd.V_reads' HO_10.out).2.2 x14_1 p261 q261
                                    obtain rfl : ad256 = ad261 := (by injection e261)
                                    replace p261 := eq_true p261
                                    replace q261 := eq_true q261
                                    go_wp2
                                    repeat (go_quiet (fail); try go_wp2)
                                    go_roundg k2
                                    case measure => have := HK1.out; have := HK2.out; omega
                                    case rel => exact ⟨(wrap64 (x13_2 + 1)), (wrap64 (x14_1 + 1)), (by first | rfl | (simp; done) | (simp [*]; done)), (by first | rfl | (simp; done) | (simp [*]; done)), H', ⟨by have := HK1.out; have := HK2.out; omega⟩, ⟨by (with_reducible repeat (first | apply Kd.V_alloc | apply Kd.V_drewN | apply Kd.V_drew)); exact HO_10.out⟩, ⟨by (with_reducible repeat (first | refine blk_drewN ?_ _ | refine blk_drew ?_ | refine blk_alloc ?_ _)); exact BK257.out⟩, ⟨by repeat (first | (with_reducible first | exact HB.out | apply below_alloc | apply pw_below_drewN | apply below_drew1 | refine below_set ?_ GE257.out) | exact HB.out)⟩⟩
                            · rw [if_neg c24] at H
                              exact absurd H (by simp)
                          · rw [if_neg c23] at H
                            exact absurd H (by simp)
                        · rw [if_neg c22] at H
                          exact absurd H (by simp)
                      · rw [if_neg c21] at H
                        have c21b0 : decide (x13_2 < (l0.length : Int)) = false := decide_eq_false c21
                        clear c21
                        by_cases c28 : x13_2 = (l0.length : Int)
                        · rw [if_pos c28] at H
                          have c28b0 : (x13_2 == (l0.length : Int)) = true := beq_iff_eq.mpr c28
                          have c28b1 : (x13_2 != (l0.length : Int)) = false := bne_eq_false_iff_eq.mpr c28
                          clear c28
                          exact absurd ((Option.some.inj H).trans hr_) (by simp)
                        · rw [if_neg c28] at H
                          have c28b0 : (x13_2 == (l0.length : Int)) = false := beq_eq_false_iff_ne.mpr c28
                          have c28b1 : (x13_2 != (l0.length : Int)) = true := bne_iff_ne.mpr c28
                          by_cases c29 : 0 ≤ x14_1
                          · rw [if_pos c29] at H
                            have c29b0 : decide (0 ≤ x14_1) = true := decide_eq_true c29
                            clear c29
                            by_cases c30 : x14_1 < (t251.length : Int)
                            · rw [if_pos c30] at H
                              have c30b0 : decide (x14_1 < (t251.length : Int)) = true := decide_eq_true c30
                              clear c30
                              by_cases c31 : ((rd_T28 t251 x14_1).f1) ≥ a3
                              · rw [if_pos c31] at H
                                have c31b0 : decide (a3 ≤ ((rd_T28 t251 x14_1).f1)) = true := decide_eq_true c31
                                clear c31
                                exact absurd ((Option.some.inj H).trans hr_) (by simp)
                              · rw [if_neg c31] at H
                                have c31b0 : decide (a3 ≤ ((rd_T28 t251 x14_1).f1)) = false := decide_eq_false c31
                                clear c31
                                have H' := Aside0.mk H
                                clear H
                                have p262 : 0 ≤ (x14_1 : Int) := of_decide_eq_true (by first | (with_reducible assumption) | assumption)
                                have q262 : x14_1 < (t251.length : Int) := of_decide_eq_true (by first | (with_reducible assumption) | assumption)
                                obtain ⟨ad262, e262, hx262_0, hx262_1⟩ := at_T28 (Kd.V_reads' HO_10.out).2.2 x14_1 p262 q262
                                obtain rfl : ad256 = ad262 := (by injection e262)
                                replace p262 := eq_true p262
                                replace q262 := eq_true q262
                                go_wp2
                                repeat (go_quiet (fail); try go_wp2)
                                go_roundg k2
                                case measure => have := HK1.out; have := HK2.out; omega
                                case rel => exact ⟨(wrap64 (x13_2 + 1)), (wrap64 (x14_1 + 1)), (by first | rfl | (simp; done) | (simp [*]; done)), (by first | rfl | (simp; done) | (simp [*]; done)), H', ⟨by have := HK1.out; have := HK2.out; omega⟩, ⟨by (with_reducible repeat (first | apply Kd.V_alloc | apply Kd.V_drewN | apply Kd.V_drew)); exact HO_10.out⟩, ⟨by (with_reducible repeat (first | refine blk_drewN ?_ _ | refine blk_drew ?_ | refine blk_alloc ?_ _)); exact BK257.out⟩, ⟨by repeat (first | (with_reducible first | exact HB.out | apply below_alloc | apply pw_below_drewN | apply below_drew1 | refine below_set ?_ GE257.out) | exact HB.out)⟩⟩
                            · rw [if_neg c30] at H
                              exact absurd H (by simp)
                          · rw [if_neg c29] at H
                            exact absurd H (by simp)
                · rw [if_neg c20] at H
                  have c20b0 : decide ((wrap64 (x14_1 + 1)) < (t251.length : Int)) = false := decide_eq_false c20
                  clear c20
                  by_cases c32 : t250 = true
                  · subst c32
                    have H1 : (if (((rd_T28 t251 (ji12)).f0) == a2 && (((rd_T28 t251 (ji12)).f1) == a3)) = true then ((least_Check.f k1 t251).bind fun t258 => (if t258 = true then (if (t251.length : Int) ≤ (wrap64 ((l0.length : Int) + 1)) then (some true) else (some false)) else (some false))) else (some false)) = some r := by rw [if_pos rfl] at H; exact H
                    clear H
                    have H := H1
                    clear H1
                    by_cases c33 : (((rd_T28 t251 (ji12)).f0) == a2 && (((rd_T28 t251 (ji12)).f1) == a3)) = true
                    · rw [if_pos c33] at H
                      have c33b0 : (((rd_T28 t251 (ji12)).f0) == a2 && (((rd_T28 t251 (ji12)).f1) == a3)) = true := c33
                      (try (have c33b1 : decide (((rd_T28 t251 (ji12)).f0) = a2 && (((rd_T28 t251 (ji12)).f1) == a3)) = true := by simpa using c33))
                      (try (have c33b2 : (((rd_T28 t251 (ji12)).f0) == a2 && (((rd_T28 t251 (ji12)).f1) == a3)) = true := by simpa using c33))
                      clear c33
                      replace H := Option.bind_eq_some_iff.mp H
                      obtain ⟨t258, A340, H⟩ := H
                      replace H : (if t258 = true then (if (t251.length : Int) ≤ (wrap64 ((l0.length : Int) + 1)) then (some true) else (some false)) else (some false)) = some r := H
                      have A34 := Aside0.mk A340
                      clear A340
                      by_cases c35 : t258 = true
                      · subst c35
                        have H1 : (if (t251.length : Int) ≤ (wrap64 ((l0.length : Int) + 1)) then (some true) else (some false)) = some r := by rw [if_pos rfl] at H; exact H
                        clear H
                        have H := H1
                        clear H1
                        by_cases c36 : (t251.length : Int) ≤ (wrap64 ((l0.length : Int) + 1))
                        · rw [if_pos c36] at H
                          have c36b0 : decide ((t251.length : Int) ≤ (wrap64 ((l0.length : Int) + 1))) = true := decide_eq_true c36
                          clear c36
                          obtain rfl := Option.some.inj H
                          have hcz37_0 : wr.cell? ⟨gb257, 0, none⟩ = some (.int .i64 ((rd_T28 t251 (ji12)).f0)) := (blk_cell BK257.out 0).trans rfl
                          have hcz37_1 : wr.cell? ⟨gb257, 1, none⟩ = some (.int .i64 ((rd_T28 t251 (ji12)).f1)) := (blk_cell BK257.out 1).trans rfl
                          have hfz37_0 := blk_frozen BK257.out 0
                          have hfz37_1 := blk_frozen BK257.out 1
                          go_wp2_with (first | (go_at_call 17; (with_reducible refine (least_Check.calls k1 _ _ t251 true _ ?side1 ?side2 A34.out).mono ?_); (case side1 => repeat (first | exact (Kd.V_reads' HO_10.out).2.2 | (with_reducible refine Kd.C_alloc ?_ _) | (with_reducible refine Kd.C_drewN ?_ _) | (with_reducible refine Kd.C_drew ?_))); (case side2 => exact (Kd.V_reads' HO_10.out).2.1); rintro e w38 ⟨rfl, hb⟩; have n0_ := Aside0.mk (Kd.V_below (by (with_reducible repeat (first | apply Kd.V_alloc | apply Kd.V_drewN | apply Kd.V_drew)); exact HO_10.out) hb); have n1_ := Aside0.mk (blk_below (g := gb257) (o := .cells #[.int .i64 ((rd_T28 t251 (ji12)).f0), .int .i64 ((rd_T28 t251 (ji12)).f1)] 28 (0, 0)) (by (with_reducible repeat (first | refine blk_drewN ?_ _ | refine blk_drew ?_ | refine blk_alloc ?_ _)); exact BK257.out) hb); have n2_ := Aside0.mk (below_step (by repeat (first | (with_reducible first | exact HB.out | apply below_alloc | apply pw_below_drewN | apply below_drew1 | refine below_set ?_ GE257.out) | exact HB.out)) hb); clear HO_10; clear BK257; clear HB; have HO_10 := n0_; have BK257 := n1_; have HB := n2_; clear n0_ n1_ n2_; (try clear hb); (try clear hb2); (try clear hk); (try clear hi)))
                          repeat (go_quiet (first | (go_at_call 17; (with_reducible refine (least_Check.calls k1 _ _ t251 true _ ?side1 ?side2 A34.out).mono ?_); (case side1 => repeat (first | exact (Kd.V_reads' HO_10.out).2.2 | (with_reducible refine Kd.C_alloc ?_ _) | (with_reducible refine Kd.C_drewN ?_ _) | (with_reducible refine Kd.C_drew ?_))); (case side2 => exact (Kd.V_reads' HO_10.out).2.1); rintro e w38 ⟨rfl, hb⟩; have n0_ := Aside0.mk (Kd.V_below (by (with_reducible repeat (first | apply Kd.V_alloc | apply Kd.V_drewN | apply Kd.V_drew)); exact HO_10.out) hb); have n1_ := Aside0.mk (blk_below (g := gb257) (o := .cells #[.int .i64 ((rd_T28 t251 (ji12)).f0), .int .i64 ((rd_T28 t251 (ji12)).f1)] 28 (0, 0)) (by (with_reducible repeat (first | refine blk_drewN ?_ _ | refine blk_drew ?_ | refine blk_alloc ?_ _)); exact BK257.out) hb); have n2_ := Aside0.mk (below_step (by repeat (first | (with_reducible first | exact HB.out | apply below_alloc | apply pw_below_drewN | apply below_drew1 | refine below_set ?_ GE257.out) | exact HB.out)) hb); clear HO_10; clear BK257; clear HB; have HO_10 := n0_; have BK257 := n1_; have HB := n2_; clear n0_ n1_ n2_; (try clear hb); (try clear hb2); (try clear hk); (try clear hi))); try go_wp2_with (first | (go_at_call 17; (with_reducible refine (least_Check.calls k1 _ _ t251 true _ ?side1 ?side2 A34.out).mono ?_); (case side1 => repeat (first | exact (Kd.V_reads' HO_10.out).2.2 | (with_reducible refine Kd.C_alloc ?_ _) | (with_reducible refine Kd.C_drewN ?_ _) | (with_reducible refine Kd.C_drew ?_))); (case side2 => exact (Kd.V_reads' HO_10.out).2.1); rintro e w38 ⟨rfl, hb⟩; have n0_ := Aside0.mk (Kd.V_below (by (with_reducible repeat (first | apply Kd.V_alloc | apply Kd.V_drewN | apply Kd.V_drew)); exact HO_10.out) hb); have n1_ := Aside0.mk (blk_below (g := gb257) (o := .cells #[.int .i64 ((rd_T28 t251 (ji12)).f0), .int .i64 ((rd_T28 t251 (ji12)).f1)] 28 (0, 0)) (by (with_reducible repeat (first | refine blk_drewN ?_ _ | refine blk_drew ?_ | refine blk_alloc ?_ _)); exact BK257.out) hb); have n2_ := Aside0.mk (below_step (by repeat (first | (with_reducible first | exact HB.out | apply below_alloc | apply pw_below_drewN | apply below_drew1 | refine below_set ?_ GE257.out) | exact HB.out)) hb); clear HO_10; clear BK257; clear HB; have HO_10 := n0_; have BK257 := n1_; have HB := n2_; clear n0_ n1_ n2_; (try clear hb); (try clear hb2); (try clear hk); (try clear hi))))
                          go_ret
                          exact ⟨by first | rfl | (simp [errW_none, errW_some] <;> rfl) | (simp only [← hji12]; first | rfl | (simp [errW_none, errW_some] <;> rfl)) | (simp [*, errW_none, errW_some] <;> rfl), by repeat (first | (with_reducible first | exact HB.out | apply below_alloc | apply pw_below_drewN | apply below_drew1 | refine below_set ?_ GE257.out) | exact HB.out)⟩
                        · rw [if_neg c36] at H
                          have c36b0 : decide ((t251.length : Int) ≤ (wrap64 ((l0.length : Int) + 1))) = false := decide_eq_false c36
                          clear c36
                          exact absurd ((Option.some.inj H).trans hr_) (by simp)
                      · replace c35 := Bool.eq_false_iff.mpr c35
                        subst c35
                        have H1 : (some false) = some r := by rw [if_neg (show ¬ (false = true) by decide)] at H; exact H
                        clear H
                        have H := H1
                        clear H1
                        exact absurd ((Option.some.inj H).trans hr_) (by simp)
                    · rw [if_neg c33] at H
                      have c33b0 : (((rd_T28 t251 (ji12)).f0) == a2 && (((rd_T28 t251 (ji12)).f1) == a3)) = false := by simpa using c33
                      (try (have c33b1 : decide (((rd_T28 t251 (ji12)).f0) = a2 && (((rd_T28 t251 (ji12)).f1) == a3)) = false := by simpa using c33))
                      (try (have c33b2 : (((rd_T28 t251 (ji12)).f0) == a2 && (((rd_T28 t251 (ji12)).f1) == a3)) = false := by simpa using c33))
                      (try (have c33b3 : ¬ (((rd_T28 t251 (ji12)).f0) = a2 && (((rd_T28 t251 (ji12)).f1) == a3)) := by simpa using c33))
                      clear c33
                      exact absurd ((Option.some.inj H).trans hr_) (by simp)
                  · replace c32 := Bool.eq_false_iff.mpr c32
                    subst c32
                    have H1 : (some false) = some r := by rw [if_neg (show ¬ (false = true) by decide)] at H; exact H
                    clear H
                    have H := H1
                    clear H1
                    exact absurd ((Option.some.inj H).trans hr_) (by simp)
          · rw [if_neg c14] at H
            exact absurd H (by simp)
        · rw [if_neg c13] at H
          exact absurd H (by simp)
    · rw [if_neg c10] at H
      have c10b0 : (t254 == 0) = false := beq_eq_false_iff_ne.mpr c10
      have c10b1 : (t254 != 0) = true := bne_iff_ne.mpr c10
      by_cases c39 : t250 = true
      · subst c39
        have H1 : ((sawtoothref08_Same.f k t251 l0).bind fun t255 => (if t255 = true then (some true) else (some false))) = some r := by rw [if_pos rfl] at H; exact H
        clear H
        have H := H1
        clear H1
        replace H := Option.bind_eq_some_iff.mp H
        obtain ⟨t255, A400, H⟩ := H
        replace H : (if t255 = true then (some true) else (some false)) = some r := H
        have A40 := Aside0.mk A400
        clear A400
        by_cases c41 : t255 = true
        · subst c41
          have H1 : (some true) = some r := by rw [if_pos rfl] at H; exact H
          clear H
          have H := H1
          clear H1
          obtain rfl := Option.some.inj H
          go_enter Try.func6, Try.ntmps6
          go_wp2_with (first | (go_at_call 9; (with_reducible refine (sawtoothlaw08_awake.calls k  true _ A5.out).mono ?_); rintro e w42 ⟨rfl, hb⟩; have n0_ := Aside0.mk (below_step (by repeat (first | (with_reducible first | exact HB.out | apply below_alloc | apply pw_below_drewN | apply below_drew1) | exact HB.out)) hb); clear HB; have HB := n0_; clear n0_; (try clear hb); (try clear hb2); (try clear hk); (try clear hi)) | (go_at_call 10; (with_reducible refine (least_Put.calls k _ _ l0 a1 a2 a3 t251 t254 _ ?side1 ?side2 A9.out).mono ?_); (case side1 => repeat (first | exact (Kd.C_below HR0.out HB.out) | (with_reducible refine Kd.C_alloc ?_ _) | (with_reducible refine Kd.C_drewN ?_ _) | (with_reducible refine Kd.C_drew ?_))); (case side2 => exact HC0.out); rintro e w43 ⟨v252, rfl, ho0, hb⟩; have n0_ := Aside0.mk (Kd.V_lower (Kd.V_mono (ok' := fun k_ => True) ho0 (fun k_ hk_ => trivial)) (below_size (by repeat (first | (with_reducible first | exact HB.out | apply below_alloc | apply pw_below_drewN | apply below_drew1) | exact HB.out)))); have n1_ := Aside0.mk (below_step (by repeat (first | (with_reducible first | exact HB.out | apply below_alloc | apply pw_below_drewN | apply below_drew1) | exact HB.out)) hb); clear HB; have HO253 := n0_; have HB := n1_; clear n0_ n1_; (try clear hb); (try clear hb2); (try clear hk); (try clear hi); (try clear ho0); obtain ⟨Ao44, co44, eo44⟩ := Kd.V_slice HO253.out; subst eo44) | (go_at_call 12; (with_reducible refine (sawtoothref08_Same.calls k _ _ t251 _ _ l0 true _ ?side1 ?side2 ?side3 ?side4 A40.out).mono ?_); (case side1 => repeat (first | exact (Kd.V_reads' HO253.out).2.2 | (with_reducible refine Kd.C_alloc ?_ _) | (with_reducible refine Kd.C_drewN ?_ _) | (with_reducible refine Kd.C_drew ?_))); (case side2 => exact (Kd.V_reads' HO253.out).2.1); (case side3 => repeat (first | exact (Kd.C_below HR0.out HB.out) | (with_reducible refine Kd.C_alloc ?_ _) | (with_reducible refine Kd.C_drewN ?_ _) | (with_reducible refine Kd.C_drew ?_))); (case side4 => exact HC0.out); rintro e w' ⟨rfl, ⟨nd, rfl⟩⟩; (try first | exact ⟨rfl, _, World.drewN_drewN _ _ _⟩ | exact ⟨rfl, _, Eq.trans (World.drewN_drewN _ _ _) (congrArg (World.drewN _) (Nat.add_assoc _ _ _))⟩)))
          repeat (go_quiet (first | (go_at_call 9; (with_reducible refine (sawtoothlaw08_awake.calls k  true _ A5.out).mono ?_); rintro e w42 ⟨rfl, hb⟩; have n0_ := Aside0.mk (below_step (by repeat (first | (with_reducible first | exact HB.out | apply below_alloc | apply pw_below_drewN | apply below_drew1) | exact HB.out)) hb); clear HB; have HB := n0_; clear n0_; (try clear hb); (try clear hb2); (try clear hk); (try clear hi)) | (go_at_call 10; (with_reducible refine (least_Put.calls k _ _ l0 a1 a2 a3 t251 t254 _ ?side1 ?side2 A9.out).mono ?_); (case side1 => repeat (first | exact (Kd.C_below HR0.out HB.out) | (with_reducible refine Kd.C_alloc ?_ _) | (with_reducible refine Kd.C_drewN ?_ _) | (with_reducible refine Kd.C_drew ?_))); (case side2 => exact HC0.out); rintro e w43 ⟨v252, rfl, ho0, hb⟩; have n0_ := Aside0.mk (Kd.V_lower (Kd.V_mono (ok' := fun k_ => True) ho0 (fun k_ hk_ => trivial)) (below_size (by repeat (first | (with_reducible first | exact HB.out | apply below_alloc | apply pw_below_drewN | apply below_drew1) | exact HB.out)))); have n1_ := Aside0.mk (below_step (by repeat (first | (with_reducible first | exact HB.out | apply below_alloc | apply pw_below_drewN | apply below_drew1) | exact HB.out)) hb); clear HB; have HO253 := n0_; have HB := n1_; clear n0_ n1_; (try clear hb); (try clear hb2); (try clear hk); (try clear hi); (try clear ho0); obtain ⟨Ao44, co44, eo44⟩ := Kd.V_slice HO253.out; subst eo44) | (go_at_call 12; (with_reducible refine (sawtoothref08_Same.calls k _ _ t251 _ _ l0 true _ ?side1 ?side2 ?side3 ?side4 A40.out).mono ?_); (case side1 => repeat (first | exact (Kd.V_reads' HO253.out).2.2 | (with_reducible refine Kd.C_alloc ?_ _) | (with_reducible refine Kd.C_drewN ?_ _) | (with_reducible refine Kd.C_drew ?_))); (case side2 => exact (Kd.V_reads' HO253.out).2.1); (case side3 => repeat (first | exact (Kd.C_below HR0.out HB.out) | (with_reducible refine Kd.C_alloc ?_ _) | (with_reducible refine Kd.C_drewN ?_ _) | (with_reducible refine Kd.C_drew ?_))); (case side4 => exact HC0.out); rintro e w' ⟨rfl, ⟨nd, rfl⟩⟩; (try first | exact ⟨rfl, _, World.drewN_drewN _ _ _⟩ | exact ⟨rfl, _, Eq.trans (World.drewN_drewN _ _ _) (congrArg (World.drewN _) (Nat.add_assoc _ _ _))⟩))); try go_wp2_with (first | (go_at_call 9; (with_reducible refine (sawtoothlaw08_awake.calls k  true _ A5.out).mono ?_); rintro e w42 ⟨rfl, hb⟩; have n0_ := Aside0.mk (below_step (by repeat (first | (with_reducible first | exact HB.out | apply below_alloc | apply pw_below_drewN | apply below_drew1) | exact HB.out)) hb); clear HB; have HB := n0_; clear n0_; (try clear hb); (try clear hb2); (try clear hk); (try clear hi)) | (go_at_call 10; (with_reducible refine (least_Put.calls k _ _ l0 a1 a2 a3 t251 t254 _ ?side1 ?side2 A9.out).mono ?_); (case side1 => repeat (first | exact (Kd.C_below HR0.out HB.out) | (with_reducible refine Kd.C_alloc ?_ _) | (with_reducible refine Kd.C_drewN ?_ _) | (with_reducible refine Kd.C_drew ?_))); (case side2 => exact HC0.out); rintro e w43 ⟨v252, rfl, ho0, hb⟩; have n0_ := Aside0.mk (Kd.V_lower (Kd.V_mono (ok' := fun k_ => True) ho0 (fun k_ hk_ => trivial)) (below_size (by repeat (first | (with_reducible first | exact HB.out | apply below_alloc | apply pw_below_drewN | apply below_drew1) | exact HB.out)))); have n1_ := Aside0.mk (below_step (by repeat (first | (with_reducible first | exact HB.out | apply below_alloc | apply pw_below_drewN | apply below_drew1) | exact HB.out)) hb); clear HB; have HO253 := n0_; have HB := n1_; clear n0_ n1_; (try clear hb); (try clear hb2); (try clear hk); (try clear hi); (try clear ho0); obtain ⟨Ao44, co44, eo44⟩ := Kd.V_slice HO253.out; subst eo44) | (go_at_call 12; (with_reducible refine (sawtoothref08_Same.calls k _ _ t251 _ _ l0 true _ ?side1 ?side2 ?side3 ?side4 A40.out).mono ?_); (case side1 => repeat (first | exact (Kd.V_reads' HO253.out).2.2 | (with_reducible refine Kd.C_alloc ?_ _) | (with_reducible refine Kd.C_drewN ?_ _) | (with_reducible refine Kd.C_drew ?_))); (case side2 => exact (Kd.V_reads' HO253.out).2.1); (case side3 => repeat (first | exact (Kd.C_below HR0.out HB.out) | (with_reducible refine Kd.C_alloc ?_ _) | (with_reducible refine Kd.C_drewN ?_ _) | (with_reducible refine Kd.C_drew ?_))); (case side4 => exact HC0.out); rintro e w' ⟨rfl, ⟨nd, rfl⟩⟩; (try first | exact ⟨rfl, _, World.drewN_drewN _ _ _⟩ | exact ⟨rfl, _, Eq.trans (World.drewN_drewN _ _ _) (congrArg (World.drewN _) (Nat.add_assoc _ _ _))⟩))))
          go_ret
          exact ⟨by first | rfl | (simp [errW_none, errW_some] <;> rfl) | (simp [*, errW_none, errW_some] <;> rfl), by repeat (first | (with_reducible first | exact HB.out | apply below_alloc | apply pw_below_drewN | apply below_drew1) | exact HB.out)⟩
        · replace c41 := Bool.eq_false_iff.mpr c41
          subst c41
          have H1 : (some false) = some r := by rw [if_neg (show ¬ (false = true) by decide)] at H; exact H
          clear H
          have H := H1
          clear H1
          exact absurd ((Option.some.inj H).trans hr_) (by simp)
      · replace c39 := Bool.eq_false_iff.mpr c39
        subst c39
        have H1 : (some false) = some r := by rw [if_neg (show ¬ (false = true) by decide)] at H; exact H
        clear H
        have H := H1
        clear H1
        exact absurd ((Option.some.inj H).trans hr_) (by simp)

end Go.Proofs.Ytghhjkjdeohmiaa.Hp
