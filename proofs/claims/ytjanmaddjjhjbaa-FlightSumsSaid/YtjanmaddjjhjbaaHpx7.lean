/- Functions of the program as Lean functions, each with its contract: the call comes to that answer. Told by wip/tools/handprint.py of this session. -/
import Derived.Test.YtjanmaddjjhjbaaHpx0
import Derived.Test.YtjanmaddjjhjbaaHpx4
import Derived.Test.YtjanmaddjjhjbaaHpx6
namespace Go.Proofs.Ytjanmaddjjhjbaa.Hp
open Go.RowKit Go.Proofs.YtjanmaddjjhjbaaW.PrintWords Go.Proofs.YtjanmaddjjhjbaaW.PrintLast Go.Proofs.YtjanmaddjjhjbaaW.PrintMore
attribute [local go_sem] max2_int min2_int max_two min_two max_three min_three max_four min_four   -- for this text's walks alone
set_option linter.unusedVariables false
set_option linter.unusedSimpArgs false

/-! ### flight_Do: function 10 -/
theorem ins_run {P : Program} {t k e : TypeId} {q : IntKind} {es : Array MapEntry} {c : Nat} {n : Int} {v : Value} {X : World} (ht : P.underlying t = some (.map k e)) (hk : P.underlying k = some (.int q))
    (hnew : Instr.findNow (.int q) (.int q n) es.toList 0 = some none) :
    (Instr.mapUpdate t (.map (some X.heap.size)) (.int q n) v).run P (X.alloc (.map es c)) = .ok () (X.alloc (.map (es.push ⟨.int q n, v, c⟩) (c + 1))) := by
  have hb : (X.alloc (.map es c)).heap[X.heap.size]? = some (.map es c) := by unfold World.alloc; simp
  have hc := MapKept.run_checkKey (w := X.alloc (.map es c)) (k := .int q n) hk (by simp [MapKept.IsKey]) false 9999
  simp [Instr.mapUpdate, run_underlying ht, MapKept.run_getObj_map hb, hc, Instr.findKey, run_underlying hk, hnew, MapKept.run_setObj_map _ hb, Result.andThen]
  unfold World.alloc
  congr 1
  refine Array.ext_getElem? fun i => ?_
  rw [Array.getElem?_setIfInBounds, Array.getElem?_push, Array.getElem?_push]
  by_cases h : X.heap.size = i
  · subst h; simp
  · rw [if_neg h, if_neg (fun e => h e.symm), if_neg (fun e => h e.symm)]
theorem look_hit {P : Program} {t k e : TypeId} {q : IntKind} {es : Array MapEntry} {c b i : Nat} {n : Int} {v : Value} {X : World} (ht : P.underlying t = some (.map k e)) (hk : P.underlying k = some (.int q))
    (hb : X.heap[b]? = some (.map es c)) (hf : Instr.findNow (.int q) (.int q n) es.toList 0 = some (some (i, v))) :
    (Instr.lookup t (.map (some b)) (.int q n) true).run P X = .ok (.tuple #[v, .bool true]) X := by
  have hc := MapKept.run_checkKey (w := X) (k := .int q n) hk (by simp [MapKept.IsKey]) es.isEmpty 9999
  simp [Instr.lookup, run_underlying ht, MapKept.run_getObj_map hb, hc, Instr.findKey, run_underlying hk, hf, Result.andThen]
theorem look_miss {P : Program} {t k e : TypeId} {q : IntKind} {es : Array MapEntry} {c b : Nat} {n : Int} {z : Value} {X : World} (ht : P.underlying t = some (.map k e)) (hk : P.underlying k = some (.int q))
    (hb : X.heap[b]? = some (.map es c)) (hf : Instr.findNow (.int q) (.int q n) es.toList 0 = some none) (hz : (zeroValue e).run P X = .ok z X) :
    (Instr.lookup t (.map (some b)) (.int q n) true).run P X = .ok (.tuple #[z, .bool false]) X := by
  have hc := MapKept.run_checkKey (w := X) (k := .int q n) hk (by simp [MapKept.IsKey]) es.isEmpty 9999
  simp [Instr.lookup, run_underlying ht, MapKept.run_getObj_map hb, hc, Instr.findKey, run_underlying hk, hf, hz, Result.andThen]

/-- The entries of Do's map. -/
def ents : Nat → Array MapEntry
  | 0 => #[]
  | 1 => #[⟨.int .i64 0, .agg #[.func (.func 22) #[] #[]], 0⟩]
  | 2 => #[⟨.int .i64 0, .agg #[.func (.func 22) #[] #[]], 0⟩, ⟨.int .i64 1, .agg #[.func (.func 23) #[] #[]], 1⟩]
  | _ => #[⟨.int .i64 0, .agg #[.func (.func 22) #[] #[]], 0⟩, ⟨.int .i64 1, .agg #[.func (.func 23) #[] #[]], 1⟩, ⟨.int .i64 2, .agg #[.func (.func 24) #[] #[]], 2⟩]

/-- What one act does. -/
def flight_Do.act (k : Nat) (x y z a b c : Int) : Option (Int × Int × Int × Int) :=
  if a = 0 then flight_Do_1.f k x y z a b c else if a = 1 then flight_Do_2.f k x y z a b c else if a = 2 then flight_Do_3.f k x y z a b c else some (x, y, z, 201)
/-- What some do. -/
def flight_Do.run (k : Nat) : Int → Int → Int → List S38 → Option (Int × Int × Int × List Int)
  | x, y, z, [] => some (x, y, z, [])
  | x, y, z, a :: l => (flight_Do.act k x y z a.f0 a.f1 a.f2).bind fun r => (flight_Do.run k r.1 r.2.1 r.2.2.1 l).bind fun q => some (q.1, q.2.1, q.2.2.1, r.2.2.2 :: q.2.2.2)
def flight_Do.f (k : Nat) (x y z : Int) (l : List S38) : Option (Int × Int × Int × List Int) := if l.length < 17592186044416 then flight_Do.run k x y z l else none

theorem flight_Do.act_mono (k : Nat) (x y z a b c : Int) : LeO (flight_Do.act k x y z a b c) (flight_Do.act (k + 1) x y z a b c) := by
  unfold flight_Do.act
  exact LeO.ite (flight_Do_1.mono _ _ _ _ _ _ k) (LeO.ite (flight_Do_2.mono _ _ _ _ _ _ k) (LeO.ite (flight_Do_3.mono _ _ _ _ _ _ k) (LeO.refl _)))
theorem flight_Do.run_mono (k : Nat) (l : List S38) : ∀ x y z : Int, LeO (flight_Do.run k x y z l) (flight_Do.run (k + 1) x y z l) := by
  induction l with
  | nil => intro x y z; exact LeO.refl _
  | cons a l ih =>
    intro x y z
    simp only [flight_Do.run]
    exact LeO.bind (flight_Do.act_mono k x y z a.f0 a.f1 a.f2) (fun r => LeO.bind (ih _ _ _) (fun _ => LeO.refl _))
theorem flight_Do.mono : ∀ a0 a1 a2 a3 k, LeO (flight_Do.f k a0 a1 a2 a3) (flight_Do.f (k + 1) a0 a1 a2 a3) := by
  intro a0 a1 a2 a3 k
  unfold flight_Do.f
  exact LeO.ite (flight_Do.run_mono k a3 a0 a1 a2) (LeO.refl _)
theorem new_at (X : World) (o : Obj) (b : Nat) (hb : b = X.heap.size) : (X.alloc o).heap[b]? = some o := by
  subst hb
  unfold World.alloc
  simp

theorem drop_at (l : List S38) (j : Nat) (h : j < l.length) : l.drop j = rd_T38 l j :: l.drop (j + 1) := by
  rw [List.drop_eq_getElem_cons h]
  congr 1
  unfold rd_T38
  simp [List.getD_eq_getElem?_getD, h]

set_option maxHeartbeats 1600000 in
set_option maxRecDepth 100000 in
theorem flight_Do.calls (k : Nat) (a0_0 : Int) (a0_1 : Int) (a0_2 : Int) (A1 : Option Addr) (c1 : Nat) (l1 : List (S38)) (r1 : Int) (r2 : Int) (r3 : Int) (r4 : List Int) (w : World) (hr1 : Kd.C k38 w A1 l1.length l1) (_hc1 : l1.length ≤ c1) (h : flight_Do.f k a0_0 a0_1 a0_2 l1 = some (r1, r2, r3, r4)) :
    Calls Try.prog 10 #[.agg #[.int .i64 a0_0, .int .i64 a0_1, .int .i64 a0_2], .slice A1 l1.length c1] w fun e w' => ∃ v3_ : Value, e = .returned (.tuple #[.agg #[.int .i64 r1, .int .i64 r2, .int .i64 r3], v3_]) ∧ Kd.R (Kd.int .i64) 29 w' w.heap.size (fun _ => True) v3_ r4 ∧ Below w.heap.size w w' := by
  unfold flight_Do.f at h
  by_cases hlim : l1.length < 17592186044416
  · rw [if_pos hlim] at h
    have H0 := Aside0.mk h
    have HR := Aside0.mk hr1
    clear h hr1
    have hmm : ∀ X : World, (Instr.makeMap 48 none).run Try.prog X = .ok (.map (some X.heap.size)) (X.alloc (.map (ents 0) 0)) := fun X => @run_makeMap Try.prog 48 X
    have i1 : ∀ (X : World) (k : Nat), k = X.heap.size → (Instr.mapUpdate 48 (.map (some k)) (.int .i64 0) (.agg #[.func (.func 22) #[] #[]])).run Try.prog (X.alloc (.map (ents 0) 0)) = .ok () (X.alloc (.map (ents 1) 1)) := by
      rintro X k rfl
      exact ins_run Try.underlying48 Try.underlying3 rfl
    have i2 : ∀ (X : World) (k : Nat), k = X.heap.size → (Instr.mapUpdate 48 (.map (some k)) (.int .i64 1) (.agg #[.func (.func 23) #[] #[]])).run Try.prog (X.alloc (.map (ents 1) 1)) = .ok () (X.alloc (.map (ents 2) 2)) := by
      rintro X k rfl
      exact ins_run Try.underlying48 Try.underlying3 rfl
    have i3 : ∀ (X : World) (k : Nat), k = X.heap.size → (Instr.mapUpdate 48 (.map (some k)) (.int .i64 2) (.agg #[.func (.func 24) #[] #[]])).run Try.prog (X.alloc (.map (ents 2) 2)) = .ok () (X.alloc (.map (ents 3) 3)) := by
      rintro X k rfl
      exact ins_run Try.underlying48 Try.underlying3 rfl
    have hu23 := Try.underlying23
    have hu38 := Try.underlying38
    have hu47 := Try.underlying47
    go_enter Try.func10, Try.ntmps10
    go_wp2
    clear hmm i1 i2 i3
    go_loopw [7, 20] (fun v i wr => ∃ (j : Nat) (es : List Int) (x y z : Int) (q : List Int), j ≤ l1.length ∧ i = .int .i64 j ∧ Aside0 (flight_Do.run k x y z (l1.drop j) = some (r1, r2, r3, q) ∧ es ++ q = r4 ∧ es.length = j) ∧
        Aside0 (Kd.R (Kd.int .i64) 29 wr w.heap.size (fun b => b ≠ w.heap.size ∧ b ≠ w.heap.size + 1 ∧ b ≠ w.heap.size + 1 + 1) v es) ∧ Aside0 (wr.heap[w.heap.size]? = some (.cells #[.int .i64 x, .int .i64 y, .int .i64 z] 23 (0, 0))) ∧
        Aside0 (wr.heap[w.heap.size + 1]? = some (.cells #[.int .i64 0, .int .i64 0, .int .i64 0] 23 (0, 0))) ∧ Aside0 (wr.heap[w.heap.size + 1 + 1]? = some (.map (ents 3) 3)) ∧ Aside0 (Below w.heap.size w wr)) (fun _ i _ => l1.length - (intOf i).toNat)
    case atStart =>
      refine ⟨0, [], a0_0, a0_1, a0_2, r4, Nat.zero_le _, rfl, ⟨H0.out, rfl, rfl⟩, ⟨Kd.R_nil _ _ _ _ _⟩, ⟨?_⟩, ⟨?_⟩, ⟨?_⟩, ⟨?_⟩⟩
      · exact blk_alloc (blk_alloc (new_at _ _ _ rfl) _) _
      · exact blk_alloc (new_at _ _ _ (by simp)) _
      · exact new_at _ _ _ (by simp)
      · repeat (first | exact Below.refl _ _ | refine Below.alloc ?_ (by simp <;> omega) _)
    case round =>
      obtain ⟨j, es, x, y, z, q, hj, rfl, HQ, HO, HF, HC, HM, HB⟩ := hrel
      by_cases hlt : j < l1.length
      · have hd := drop_at l1 j hlt
        have hq := HQ.out.1
        rw [hd] at hq
        simp only [flight_Do.run] at hq
        obtain ⟨⟨s1, s2, s3, s4⟩, ha, hq⟩ := Option.bind_eq_some_iff.mp hq
        obtain ⟨⟨t1, t2, t3, t4⟩, hn, hq⟩ := Option.bind_eq_some_iff.mp hq
        simp only [Option.some.injEq, Prod.mk.injEq] at hq
        have HA := Aside0.mk ha
        have HN := Aside0.mk hn
        have HE := Aside0.mk hq
        clear ha hn hq hd
        obtain ⟨ad, e_, hx0, hx1, hx2⟩ := at_T38 HR.out j (by omega) (by omega)
        cases e_
        replace hx0 := (HB.out.cell (World.block_lt_of_cell? w _ hx0)).trans hx0
        replace hx1 := (HB.out.cell (World.block_lt_of_cell? w _ hx1)).trans hx1
        replace hx2 := (HB.out.cell (World.block_lt_of_cell? w _ hx2)).trans hx2
        simp only [Int.toNat_natCast] at hx0 hx1 hx2
        have hg0 : wr.cell? ⟨w.heap.size, 0, none⟩ = some (.int .i64 x) := (blk_cell HF.out 0).trans rfl
        have hg1 : wr.cell? ⟨w.heap.size, 1, none⟩ = some (.int .i64 y) := (blk_cell HF.out 1).trans rfl
        have hg2 : wr.cell? ⟨w.heap.size, 2, none⟩ = some (.int .i64 z) := (blk_cell HF.out 2).trans rfl
        have hz0 := blk_frozen HF.out 0
        have hz1 := blk_frozen HF.out 1
        have hz2 := blk_frozen HF.out 2
        generalize ha_ : rd_T38 l1 (j : Int) = a at *
        clear ha_
        by_cases hk : a.f0 = 0
        · have h1 : a.f0 = 0 := by omega
          have HA2 : Aside0 (flight_Do_1.f k x y z a.f0 a.f1 a.f2 = some (s1, s2, s3, s4)) := ⟨by have h_ := HA.out; unfold flight_Do.act at h_; simpa [h1] using h_⟩
          have hlk : ∀ o, (Instr.lookup 48 (.map (some (w.heap.size + 1 + 1))) (.int .i64 a.f0) true).run Try.prog (wr.alloc o) = .ok (.tuple #[.agg #[.func (.func 22) #[] #[]], .bool true]) (wr.alloc o) := fun o => look_hit (i := 0) Try.underlying48 Try.underlying3 (blk_alloc HM.out o) (by rw [h1]; rfl)
          have hl0 : w.heap.size < wr.heap.size := blk_lt HF.out
          have hl1 : w.heap.size < wr.heap.size + 1 := by omega
          clear h1 HA hk
          go_wp2_with fail
          refine (flight_Do_1.calls k x y z a.f0 a.f1 a.f2 s1 s2 s3 s4 _ HA2.out).mono ?_; rintro ev w1 ⟨rfl, hb1⟩; have n0_ := Aside0.mk (blk_below (g := w.heap.size) (o := .cells #[.int .i64 x, .int .i64 y, .int .i64 z] 23 (0, 0)) (by (with_reducible repeat (first | refine blk_drewN ?_ _ | refine blk_drew ?_ | refine blk_alloc ?_ _)); exact HF.out) hb1); have n1_ := Aside0.mk (blk_below (g := w.heap.size + 1) (o := .cells #[.int .i64 0, .int .i64 0, .int .i64 0] 23 (0, 0)) (by (with_reducible repeat (first | refine blk_drewN ?_ _ | refine blk_drew ?_ | refine blk_alloc ?_ _)); exact HC.out) hb1); have n2_ := Aside0.mk (blk_below (g := w.heap.size + 1 + 1) (o := .map (ents 3) 3) (by (with_reducible repeat (first | refine blk_drewN ?_ _ | refine blk_drew ?_ | refine blk_alloc ?_ _)); exact HM.out) hb1); have n3_ := Aside0.mk (Kd.R_below HO.out (below_step (by repeat (first | exact Below.refl _ _ | apply below_alloc | apply pw_below_drewN)) hb1)); have n4_ := Aside0.mk (below_step (by repeat (first | (with_reducible first | exact HB.out | apply below_alloc | apply pw_below_drewN | apply below_drew1) | exact HB.out)) hb1); clear HF HC HM HO HB hb1 hg0 hg1 hg2 hz0 hz1 hz2 hx0 hx1 hx2 hlk; have HF := n0_; have HC := n1_; have HM := n2_; have HO := n3_; have HB := n4_; clear n0_ n1_ n2_ n3_ n4_; have hg0 : w1.cell? ⟨w.heap.size, 0, none⟩ = some (.int .i64 x) := (blk_cell HF.out 0).trans rfl; have hg1 : w1.cell? ⟨w.heap.size, 1, none⟩ = some (.int .i64 y) := (blk_cell HF.out 1).trans rfl; have hg2 : w1.cell? ⟨w.heap.size, 2, none⟩ = some (.int .i64 z) := (blk_cell HF.out 2).trans rfl; have hz0 := blk_frozen HF.out 0; have hz1 := blk_frozen HF.out 1; have hz2 := blk_frozen HF.out 2
          have hlf := blk_lt HF.out
          have hlc := blk_lt HC.out
          have hlm := blk_lt HM.out
          go_wp2_with (first | (at_builtin; refine Kd.R_append (Kd.int .i64) (w0 := w) w.heap.size rfl (.tmp 40) (.tmp 42) 26 29 (.int .i64 0) 8 rfl Try.underlying26 info29 rfl (by decide) (by omega) _ es s4 [.int .i64 s4] (fun b => b ≠ w.heap.size ∧ b ≠ w.heap.size + 1 ∧ b ≠ w.heap.size + 1 + 1) (fun _ => False) rfl ?aX ?aP (fun _ hk => hk.elim) ?aF ?aO ?aB ?aS ?aL ?_) | fail)
          case aX => go_simp
          case aP => rfl
          case aF => intro b hb; simp at hb; exact ⟨by omega, by omega, by omega⟩
          case aO => exact Kd.R_far (p := ⟨w.heap.size, 2, none⟩) (Kd.R_far (p := ⟨w.heap.size, 1, none⟩) (Kd.R_far (p := ⟨w.heap.size, 0, none⟩) HO.out (fun b hb => hb.1) _) (fun b hb => hb.1) _) (fun b hb => hb.1) _
          case aB => exact below_set (below_set (below_set HB.out (Nat.le_refl _)) (Nat.le_refl _)) (Nat.le_refl _)
          case aS => simp; omega
          case aL => have h_ := HQ.out.2.2; omega
          intro v1 w2 HO2 HB2 hgr hat
          have hne : ∀ b, (b = w.heap.size ∨ b = w.heap.size + 1 ∨ b = w.heap.size + 1 + 1) → some b ≠ (u7 : Value).ownBlock := by
            intro b hb e
            obtain ⟨h1, h2, h3⟩ := HO.out.1 b e.symm
            omega
          have HF2 := Aside0.mk ((hgr.block w.heap.size (by simp; omega) (hne _ (.inl rfl))).trans (blk_put (blk_put (blk_put HF.out 0 (.int .i64 s1) rfl) 1 (.int .i64 s2) rfl) 2 (.int .i64 s3) rfl))
          have HC2 := Aside0.mk ((hgr.block (w.heap.size + 1) (by simp; omega) (hne _ (.inr (.inl rfl)))).trans (((Below.heap_setCell _ ⟨w.heap.size, 2, none⟩ _ _ (by simp)).trans (Below.heap_setCell _ ⟨w.heap.size, 1, none⟩ _ _ (by simp))).trans (Below.heap_setCell _ ⟨w.heap.size, 0, none⟩ _ _ (by simp)) |>.trans HC.out))
          have HM2 := Aside0.mk ((hgr.block (w.heap.size + 1 + 1) (by simp; omega) (hne _ (.inr (.inr rfl)))).trans (((Below.heap_setCell _ ⟨w.heap.size, 2, none⟩ _ _ (by simp; omega)).trans (Below.heap_setCell _ ⟨w.heap.size, 1, none⟩ _ _ (by simp; omega))).trans (Below.heap_setCell _ ⟨w.heap.size, 0, none⟩ _ _ (by simp; omega)) |>.trans HM.out))
          have HO3 := Aside0.mk HO2
          have HB3 := Aside0.mk HB2
          clear HO HF HC HM HB HO2 HB2 hgr hat hne hg0 hg1 hg2 hz0 hz1 hz2 hlf hlc hlm
          go_wp2
          go_roundw
          case rel => exact ⟨j + 1, es ++ [s4], s1, s2, s3, t4, by omega, by go_num, ⟨by rw [HN.out, HE.out.1, HE.out.2.1, HE.out.2.2.1], by rw [List.append_assoc, ← HQ.out.2.1, ← HE.out.2.2.2]; rfl, by simp [HQ.out.2.2]⟩, HO3, HF2, HC2, HM2, HB3⟩
          case measure => simp [intOf]; omega
        · by_cases hk1 : a.f0 = 1
          · have h1 : a.f0 = 1 := by omega
            have HA2 : Aside0 (flight_Do_2.f k x y z a.f0 a.f1 a.f2 = some (s1, s2, s3, s4)) := ⟨by have h_ := HA.out; unfold flight_Do.act at h_; simpa [h1] using h_⟩
            have hlk : ∀ o, (Instr.lookup 48 (.map (some (w.heap.size + 1 + 1))) (.int .i64 a.f0) true).run Try.prog (wr.alloc o) = .ok (.tuple #[.agg #[.func (.func 23) #[] #[]], .bool true]) (wr.alloc o) := fun o => look_hit (i := 1) Try.underlying48 Try.underlying3 (blk_alloc HM.out o) (by rw [h1]; rfl)
            have hl0 : w.heap.size < wr.heap.size := blk_lt HF.out
            have hl1 : w.heap.size < wr.heap.size + 1 := by omega
            clear h1 HA hk hk1
            go_wp2_with fail
            refine (flight_Do_2.calls k x y z a.f0 a.f1 a.f2 s1 s2 s3 s4 _ HA2.out).mono ?_; rintro ev w1 ⟨rfl, hb1⟩; have n0_ := Aside0.mk (blk_below (g := w.heap.size) (o := .cells #[.int .i64 x, .int .i64 y, .int .i64 z] 23 (0, 0)) (by (with_reducible repeat (first | refine blk_drewN ?_ _ | refine blk_drew ?_ | refine blk_alloc ?_ _)); exact HF.out) hb1); have n1_ := Aside0.mk (blk_below (g := w.heap.size + 1) (o := .cells #[.int .i64 0, .int .i64 0, .int .i64 0] 23 (0, 0)) (by (with_reducible repeat (first | refine blk_drewN ?_ _ | refine blk_drew ?_ | refine blk_alloc ?_ _)); exact HC.out) hb1); have n2_ := Aside0.mk (blk_below (g := w.heap.size + 1 + 1) (o := .map (ents 3) 3) (by (with_reducible repeat (first | refine blk_drewN ?_ _ | refine blk_drew ?_ | refine blk_alloc ?_ _)); exact HM.out) hb1); have n3_ := Aside0.mk (Kd.R_below HO.out (below_step (by repeat (first | exact Below.refl _ _ | apply below_alloc | apply pw_below_drewN)) hb1)); have n4_ := Aside0.mk (below_step (by repeat (first | (with_reducible first | exact HB.out | apply below_alloc | apply pw_below_drewN | apply below_drew1) | exact HB.out)) hb1); clear HF HC HM HO HB hb1 hg0 hg1 hg2 hz0 hz1 hz2 hx0 hx1 hx2 hlk; have HF := n0_; have HC := n1_; have HM := n2_; have HO := n3_; have HB := n4_; clear n0_ n1_ n2_ n3_ n4_; have hg0 : w1.cell? ⟨w.heap.size, 0, none⟩ = some (.int .i64 x) := (blk_cell HF.out 0).trans rfl; have hg1 : w1.cell? ⟨w.heap.size, 1, none⟩ = some (.int .i64 y) := (blk_cell HF.out 1).trans rfl; have hg2 : w1.cell? ⟨w.heap.size, 2, none⟩ = some (.int .i64 z) := (blk_cell HF.out 2).trans rfl; have hz0 := blk_frozen HF.out 0; have hz1 := blk_frozen HF.out 1; have hz2 := blk_frozen HF.out 2
            have hlf := blk_lt HF.out
            have hlc := blk_lt HC.out
            have hlm := blk_lt HM.out
            go_wp2_with (first | (at_builtin; refine Kd.R_append (Kd.int .i64) (w0 := w) w.heap.size rfl (.tmp 40) (.tmp 42) 26 29 (.int .i64 0) 8 rfl Try.underlying26 info29 rfl (by decide) (by omega) _ es s4 [.int .i64 s4] (fun b => b ≠ w.heap.size ∧ b ≠ w.heap.size + 1 ∧ b ≠ w.heap.size + 1 + 1) (fun _ => False) rfl ?aX ?aP (fun _ hk => hk.elim) ?aF ?aO ?aB ?aS ?aL ?_) | fail)
            case aX => go_simp
            case aP => rfl
            case aF => intro b hb; simp at hb; exact ⟨by omega, by omega, by omega⟩
            case aO => exact Kd.R_far (p := ⟨w.heap.size, 2, none⟩) (Kd.R_far (p := ⟨w.heap.size, 1, none⟩) (Kd.R_far (p := ⟨w.heap.size, 0, none⟩) HO.out (fun b hb => hb.1) _) (fun b hb => hb.1) _) (fun b hb => hb.1) _
            case aB => exact below_set (below_set (below_set HB.out (Nat.le_refl _)) (Nat.le_refl _)) (Nat.le_refl _)
            case aS => simp; omega
            case aL => have h_ := HQ.out.2.2; omega
            intro v1 w2 HO2 HB2 hgr hat
            have hne : ∀ b, (b = w.heap.size ∨ b = w.heap.size + 1 ∨ b = w.heap.size + 1 + 1) → some b ≠ (u7 : Value).ownBlock := by
              intro b hb e
              obtain ⟨h1, h2, h3⟩ := HO.out.1 b e.symm
              omega
            have HF2 := Aside0.mk ((hgr.block w.heap.size (by simp; omega) (hne _ (.inl rfl))).trans (blk_put (blk_put (blk_put HF.out 0 (.int .i64 s1) rfl) 1 (.int .i64 s2) rfl) 2 (.int .i64 s3) rfl))
            have HC2 := Aside0.mk ((hgr.block (w.heap.size + 1) (by simp; omega) (hne _ (.inr (.inl rfl)))).trans (((Below.heap_setCell _ ⟨w.heap.size, 2, none⟩ _ _ (by simp)).trans (Below.heap_setCell _ ⟨w.heap.size, 1, none⟩ _ _ (by simp))).trans (Below.heap_setCell _ ⟨w.heap.size, 0, none⟩ _ _ (by simp)) |>.trans HC.out))
            have HM2 := Aside0.mk ((hgr.block (w.heap.size + 1 + 1) (by simp; omega) (hne _ (.inr (.inr rfl)))).trans (((Below.heap_setCell _ ⟨w.heap.size, 2, none⟩ _ _ (by simp; omega)).trans (Below.heap_setCell _ ⟨w.heap.size, 1, none⟩ _ _ (by simp; omega))).trans (Below.heap_setCell _ ⟨w.heap.size, 0, none⟩ _ _ (by simp; omega)) |>.trans HM.out))
            have HO3 := Aside0.mk HO2
            have HB3 := Aside0.mk HB2
            clear HO HF HC HM HB HO2 HB2 hgr hat hne hg0 hg1 hg2 hz0 hz1 hz2 hlf hlc hlm
            go_wp2
            go_roundw
            case rel => exact ⟨j + 1, es ++ [s4], s1, s2, s3, t4, by omega, by go_num, ⟨by rw [HN.out, HE.out.1, HE.out.2.1, HE.out.2.2.1], by rw [List.append_assoc, ← HQ.out.2.1, ← HE.out.2.2.2]; rfl, by simp [HQ.out.2.2]⟩, HO3, HF2, HC2, HM2, HB3⟩
            case measure => simp [intOf]; omega
          · by_cases hk2 : a.f0 = 2
            · have h1 : a.f0 = 2 := by omega
              have HA2 : Aside0 (flight_Do_3.f k x y z a.f0 a.f1 a.f2 = some (s1, s2, s3, s4)) := ⟨by have h_ := HA.out; unfold flight_Do.act at h_; simpa [h1] using h_⟩
              have hlk : ∀ o, (Instr.lookup 48 (.map (some (w.heap.size + 1 + 1))) (.int .i64 a.f0) true).run Try.prog (wr.alloc o) = .ok (.tuple #[.agg #[.func (.func 24) #[] #[]], .bool true]) (wr.alloc o) := fun o => look_hit (i := 2) Try.underlying48 Try.underlying3 (blk_alloc HM.out o) (by rw [h1]; rfl)
              have hl0 : w.heap.size < wr.heap.size := blk_lt HF.out
              have hl1 : w.heap.size < wr.heap.size + 1 := by omega
              clear h1 HA hk hk1 hk2
              go_wp2_with fail
              refine (flight_Do_3.calls k x y z a.f0 a.f1 a.f2 s1 s2 s3 s4 _ HA2.out).mono ?_; rintro ev w1 ⟨rfl, hb1⟩; have n0_ := Aside0.mk (blk_below (g := w.heap.size) (o := .cells #[.int .i64 x, .int .i64 y, .int .i64 z] 23 (0, 0)) (by (with_reducible repeat (first | refine blk_drewN ?_ _ | refine blk_drew ?_ | refine blk_alloc ?_ _)); exact HF.out) hb1); have n1_ := Aside0.mk (blk_below (g := w.heap.size + 1) (o := .cells #[.int .i64 0, .int .i64 0, .int .i64 0] 23 (0, 0)) (by (with_reducible repeat (first | refine blk_drewN ?_ _ | refine blk_drew ?_ | refine blk_alloc ?_ _)); exact HC.out) hb1); have n2_ := Aside0.mk (blk_below (g := w.heap.size + 1 + 1) (o := .map (ents 3) 3) (by (with_reducible repeat (first | refine blk_drewN ?_ _ | refine blk_drew ?_ | refine blk_alloc ?_ _)); exact HM.out) hb1); have n3_ := Aside0.mk (Kd.R_below HO.out (below_step (by repeat (first | exact Below.refl _ _ | apply below_alloc | apply pw_below_drewN)) hb1)); have n4_ := Aside0.mk (below_step (by repeat (first | (with_reducible first | exact HB.out | apply below_alloc | apply pw_below_drewN | apply below_drew1) | exact HB.out)) hb1); clear HF HC HM HO HB hb1 hg0 hg1 hg2 hz0 hz1 hz2 hx0 hx1 hx2 hlk; have HF := n0_; have HC := n1_; have HM := n2_; have HO := n3_; have HB := n4_; clear n0_ n1_ n2_ n3_ n4_; have hg0 : w1.cell? ⟨w.heap.size, 0, none⟩ = some (.int .i64 x) := (blk_cell HF.out 0).trans rfl; have hg1 : w1.cell? ⟨w.heap.size, 1, none⟩ = some (.int .i64 y) := (blk_cell HF.out 1).trans rfl; have hg2 : w1.cell? ⟨w.heap.size, 2, none⟩ = some (.int .i64 z) := (blk_cell HF.out 2).trans rfl; have hz0 := blk_frozen HF.out 0; have hz1 := blk_frozen HF.out 1; have hz2 := blk_frozen HF.out 2
              have hlf := blk_lt HF.out
              have hlc := blk_lt HC.out
              have hlm := blk_lt HM.out
              go_wp2_with (first | (at_builtin; refine Kd.R_append (Kd.int .i64) (w0 := w) w.heap.size rfl (.tmp 40) (.tmp 42) 26 29 (.int .i64 0) 8 rfl Try.underlying26 info29 rfl (by decide) (by omega) _ es s4 [.int .i64 s4] (fun b => b ≠ w.heap.size ∧ b ≠ w.heap.size + 1 ∧ b ≠ w.heap.size + 1 + 1) (fun _ => False) rfl ?aX ?aP (fun _ hk => hk.elim) ?aF ?aO ?aB ?aS ?aL ?_) | fail)
              case aX => go_simp
              case aP => rfl
              case aF => intro b hb; simp at hb; exact ⟨by omega, by omega, by omega⟩
              case aO => exact Kd.R_far (p := ⟨w.heap.size, 2, none⟩) (Kd.R_far (p := ⟨w.heap.size, 1, none⟩) (Kd.R_far (p := ⟨w.heap.size, 0, none⟩) HO.out (fun b hb => hb.1) _) (fun b hb => hb.1) _) (fun b hb => hb.1) _
              case aB => exact below_set (below_set (below_set HB.out (Nat.le_refl _)) (Nat.le_refl _)) (Nat.le_refl _)
              case aS => simp; omega
              case aL => have h_ := HQ.out.2.2; omega
              intro v1 w2 HO2 HB2 hgr hat
              have hne : ∀ b, (b = w.heap.size ∨ b = w.heap.size + 1 ∨ b = w.heap.size + 1 + 1) → some b ≠ (u7 : Value).ownBlock := by
                intro b hb e
                obtain ⟨h1, h2, h3⟩ := HO.out.1 b e.symm
                omega
              have HF2 := Aside0.mk ((hgr.block w.heap.size (by simp; omega) (hne _ (.inl rfl))).trans (blk_put (blk_put (blk_put HF.out 0 (.int .i64 s1) rfl) 1 (.int .i64 s2) rfl) 2 (.int .i64 s3) rfl))
              have HC2 := Aside0.mk ((hgr.block (w.heap.size + 1) (by simp; omega) (hne _ (.inr (.inl rfl)))).trans (((Below.heap_setCell _ ⟨w.heap.size, 2, none⟩ _ _ (by simp)).trans (Below.heap_setCell _ ⟨w.heap.size, 1, none⟩ _ _ (by simp))).trans (Below.heap_setCell _ ⟨w.heap.size, 0, none⟩ _ _ (by simp)) |>.trans HC.out))
              have HM2 := Aside0.mk ((hgr.block (w.heap.size + 1 + 1) (by simp; omega) (hne _ (.inr (.inr rfl)))).trans (((Below.heap_setCell _ ⟨w.heap.size, 2, none⟩ _ _ (by simp; omega)).trans (Below.heap_setCell _ ⟨w.heap.size, 1, none⟩ _ _ (by simp; omega))).trans (Below.heap_setCell _ ⟨w.heap.size, 0, none⟩ _ _ (by simp; omega)) |>.trans HM.out))
              have HO3 := Aside0.mk HO2
              have HB3 := Aside0.mk HB2
              clear HO HF HC HM HB HO2 HB2 hgr hat hne hg0 hg1 hg2 hz0 hz1 hz2 hlf hlc hlm
              go_wp2
              go_roundw
              case rel => exact ⟨j + 1, es ++ [s4], s1, s2, s3, t4, by omega, by go_num, ⟨by rw [HN.out, HE.out.1, HE.out.2.1, HE.out.2.2.1], by rw [List.append_assoc, ← HQ.out.2.1, ← HE.out.2.2.2]; rfl, by simp [HQ.out.2.2]⟩, HO3, HF2, HC2, HM2, HB3⟩
              case measure => simp [intOf]; omega
            · have hs : x = s1 ∧ y = s2 ∧ z = s3 ∧ 201 = s4 := by
                have h_ := HA.out
                unfold flight_Do.act at h_
                rw [if_neg hk, if_neg hk1, if_neg hk2] at h_
                simpa only [Option.some.injEq, Prod.mk.injEq] using h_
              have hz47 : ∀ X : World, (zeroValue 47).run Try.prog X = .ok (.agg #[.nilFunc]) X := fun X => by kernel_rfl
              have hlk : ∀ o, (Instr.lookup 48 (.map (some (w.heap.size + 1 + 1))) (.int .i64 a.f0) true).run Try.prog (wr.alloc o) = .ok (.tuple #[.agg #[.nilFunc], .bool false]) (wr.alloc o) := fun o => look_miss Try.underlying48 Try.underlying3 (blk_alloc HM.out o) (by show Instr.findNow _ _ [_, _, _] 0 = _; simp only [Instr.findNow, Instr.sameNow, if_true, beq_eq_false_iff_ne.2 hk, beq_eq_false_iff_ne.2 hk1, beq_eq_false_iff_ne.2 hk2]) (hz47 _)
              obtain ⟨rfl, rfl, rfl, rfl⟩ := hs
              have hlf := blk_lt HF.out
              have hlc := blk_lt HC.out
              have hlm := blk_lt HM.out
              have hl1 : w.heap.size < wr.heap.size + 1 := by omega
              clear HA hk hk1 hk2 hz47
              go_wp2_with (first | (at_builtin; refine Kd.R_append (Kd.int .i64) (w0 := w) w.heap.size rfl (.tmp 40) (.tmp 42) 26 29 (.int .i64 0) 8 rfl Try.underlying26 info29 rfl (by decide) (by omega) _ es 201 [.int .i64 201] (fun b => b ≠ w.heap.size ∧ b ≠ w.heap.size + 1 ∧ b ≠ w.heap.size + 1 + 1) (fun _ => False) rfl ?aX ?aP (fun _ hk => hk.elim) ?aF ?aO ?aB ?aS ?aL ?_) | fail)
              case aP => rfl
              case aF => intro b hb; exact ⟨by omega, by omega, by omega⟩
              case aO => exact Kd.R_alloc (Kd.R_alloc HO.out _) _
              case aB => exact below_alloc (below_alloc HB.out _) _
              case aS => omega
              case aL => have h_ := HQ.out.2.2; omega
              intro v1 w2 HO2 HB2 hgr hat
              have hne : ∀ b, (b = w.heap.size ∨ b = w.heap.size + 1 ∨ b = w.heap.size + 1 + 1) → some b ≠ (u7 : Value).ownBlock := by
                intro b hb e
                obtain ⟨h1, h2, h3⟩ := HO.out.1 b e.symm
                omega
              have HF2 := Aside0.mk ((hgr.block w.heap.size (by simp; omega) (hne _ (.inl rfl))).trans (blk_alloc (blk_alloc HF.out _) _))
              have HC2 := Aside0.mk ((hgr.block (w.heap.size + 1) (by simp; omega) (hne _ (.inr (.inl rfl)))).trans (blk_alloc (blk_alloc HC.out _) _))
              have HM2 := Aside0.mk ((hgr.block (w.heap.size + 1 + 1) (by simp; omega) (hne _ (.inr (.inr rfl)))).trans (blk_alloc (blk_alloc HM.out _) _))
              have HO3 := Aside0.mk HO2
              have HB3 := Aside0.mk HB2
              clear HO HF HC HM HB HO2 HB2 hgr hat hne hg0 hg1 hg2 hz0 hz1 hz2 hlf hlc hlm hx0 hx1 hx2 hlk
              go_wp2
              go_roundw
              case rel => exact ⟨j + 1, es ++ [201], x, y, z, t4, by omega, by go_num, ⟨by rw [HN.out, HE.out.1, HE.out.2.1, HE.out.2.2.1], by rw [List.append_assoc, ← HQ.out.2.1, ← HE.out.2.2.2]; rfl, by simp [HQ.out.2.2]⟩, HO3, HF2, HC2, HM2, HB3⟩
              case measure => simp [intOf]; omega
      · have hjl : j = l1.length := by omega
        subst hjl
        have hq := HQ.out
        rw [List.drop_length] at hq
        simp only [flight_Do.run, Option.some.injEq, Prod.mk.injEq] at hq
        obtain ⟨⟨rfl, rfl, rfl, rfl⟩, h4, _⟩ := hq
        rw [List.append_nil] at h4
        subst h4
        have hg0 : wr.cell? ⟨w.heap.size, 0, none⟩ = some (.int .i64 x) := (blk_cell HF.out 0).trans rfl
        have hg1 : wr.cell? ⟨w.heap.size, 1, none⟩ = some (.int .i64 y) := (blk_cell HF.out 1).trans rfl
        have hg2 : wr.cell? ⟨w.heap.size, 2, none⟩ = some (.int .i64 z) := (blk_cell HF.out 2).trans rfl
        have hc0 : wr.cell? ⟨w.heap.size + 1, 0, none⟩ = some (.int .i64 0) := (blk_cell HC.out 0).trans rfl
        have hc1 : wr.cell? ⟨w.heap.size + 1, 1, none⟩ = some (.int .i64 0) := (blk_cell HC.out 1).trans rfl
        have hc2 : wr.cell? ⟨w.heap.size + 1, 2, none⟩ = some (.int .i64 0) := (blk_cell HC.out 2).trans rfl
        have hz0 := blk_frozen HC.out 0
        have hz1 := blk_frozen HC.out 1
        have hz2 := blk_frozen HC.out 2
        clear HQ
        go_wp2
        refine bodyPost_ret (results_ct rfl _ _ (w.heap.size + 1) 23 #[.int .i64 x, .int .i64 y, .int .i64 z] (0, 0) _ rfl (blk_put (blk_put (blk_put HC.out 0 _ rfl) 1 _ rfl) 2 _ rfl) Try.underlying23 rfl (by kernel_rfl)) rfl ?_
        refine ⟨_, rfl, Kd.R_mono (Kd.R_far (p := ⟨w.heap.size + 1, 2, none⟩) (Kd.R_far (p := ⟨w.heap.size + 1, 1, none⟩) (Kd.R_far (p := ⟨w.heap.size + 1, 0, none⟩) HO.out (fun b hb => hb.2.1) _) (fun b hb => hb.2.1) _) (fun b hb => hb.2.1) _) (fun _ _ => trivial), ?_⟩
        exact below_set (below_set (below_set HB.out (by omega)) (by omega)) (by omega)
  · rw [if_neg hlim] at h; cases h

end Go.Proofs.Ytjanmaddjjhjbaa.Hp
