/- engine.Do: what it comes to, the functions that it calls being met by what they come to. -/
import Derived.Test.YtpkjdjhojbadhaaGreatDoorTop12
import Derived.Test.YtpkjdjhojbadhaaGreatDoorTop16
import Derived.Test.YtpkjdjhojbadhaaGreatDoorTop18
import Derived.Test.YtpkjdjhojbadhaaGreatDoorTop19
import Derived.Defers
import Derived.Recover
import Derived.Deep.Cut
import Derived.Deep.CutBlock
import Derived.Deep.CutRange
set_option linter.unusedVariables false
set_option linter.unusedSimpArgs false
namespace Go.Proofs.YtpkjdjhojbadhaaGreatDoor.Hp
open Go.RowKit Go.Proofs.YtpkjdjhojbadhaaGreatDoorW.PrintWords Go.Proofs.YtpkjdjhojbadhaaGreatDoorW.PrintLast Go.Proofs.YtpkjdjhojbadhaaGreatDoorW.PrintMore
attribute [local go_sem] max2_int min2_int max_two min_two max_three min_three max_four min_four
/-- What engine.Do has made of its own: the state, the event, and where the results lie. -/
structure DoF (w W : World) (cs ev zs : Array Value) : Prop where
  b0 : W.heap[w.heap.size]? = some (.cells cs 39 (0, 0))
  b1 : W.heap[w.heap.size + 1]? = some (.cells ev 52 (0, 0))
  b2 : W.heap[w.heap.size + 1 + 1]? = some (.cells zs 39 (0, 0))
  b3 : W.heap[w.heap.size + 1 + 1 + 1]? = some (.cells #[.int .i64 0] 40 (0, 0))
  hb : Below w.heap.size w W
section
variable {w W W' : World} {cs ev zs : Array Value}
theorem DoF.below (h : DoF w W cs ev zs) (k : Below W.heap.size W W') : DoF w W' cs ev zs :=
  ⟨blk_below h.b0 k, blk_below h.b1 k, blk_below h.b2 k, blk_below h.b3 k, below_step h.hb k⟩
theorem DoF.alloc (h : DoF w W cs ev zs) (o : Obj) : DoF w (W.alloc o) cs ev zs := h.below (below_alloc (Below.refl _ _) _)
theorem DoF.drew (h : DoF w W cs ev zs) : DoF w W.drew cs ev zs := ⟨h.b0, h.b1, h.b2, h.b3, h.hb.drew⟩
theorem DoF.drewN (h : DoF w W cs ev zs) (n : Nat) : DoF w (W.drewN n) cs ev zs := ⟨h.b0, h.b1, h.b2, h.b3, pw_below_drewN h.hb n⟩
theorem DoF.set (h : DoF w W cs ev zs) {g : Nat} (hg : w.heap.size + 1 + 1 + 1 < g) (i : Nat) (v : Value) : DoF w (W.setCell ⟨g, i, none⟩ v) cs ev zs :=
  ⟨blk_far h.b0 (by simp only; omega) v, blk_far h.b1 (by simp only; omega) v, blk_far h.b2 (by simp only; omega) v, blk_far h.b3 (by simp only; omega) v, h.hb.setCell (by simp only; omega) v⟩
theorem blk_row {g g' : Nat} {o : Obj} (h : W.heap[g]? = some o) (hne : g ≠ g') (cs : Array Value) : (W.setRow g' cs).heap[g]? = some o := (setRow_other _ _ _ _ hne).trans h
theorem DoF.row (h : DoF w W cs ev zs) {g : Nat} (hg : w.heap.size + 1 + 1 + 1 < g) (c : Array Value) : DoF w (W.setRow g c) cs ev zs :=
  ⟨blk_row h.b0 (by omega) c, blk_row h.b1 (by omega) c, blk_row h.b2 (by omega) c, blk_row h.b3 (by omega) c, ⟨h.hb.os, h.hb.tape, h.hb.output, by rw [setRow_size]; exact h.hb.size, fun k hk => (setRow_other _ _ _ _ (by omega)).trans (h.hb.block k hk)⟩⟩
theorem DoF.grow (h : DoF w W cs ev zs) {g : Nat} (hg : w.heap.size + 1 + 1 + 1 < g) (k : W.grownBy W' (some g)) : DoF w W' cs ev zs :=
  ⟨blk_grow h.b0 k (by omega), blk_grow h.b1 k (by omega), blk_grow h.b2 k (by omega), blk_grow h.b3 k (by omega),
   ⟨k.os.trans h.hb.os, k.tape.trans h.hb.tape, k.output.trans h.hb.output, Nat.le_trans h.hb.size k.size, fun j hj => (k.block j (Nat.lt_of_lt_of_le hj h.hb.size) (fun e => by injection e; omega)).trans (h.hb.block j hj)⟩⟩
theorem DoF.lt (h : DoF w W cs ev zs) : w.heap.size + 1 + 1 + 1 < W.heap.size := blk_lt h.b3
end
theorem must.calls (w : World) : Calls Tryz.prog 16 #[.int .i64 0] w fun e w' => e = .returned (.tuple #[]) ∧ Below w.heap.size w w' := by
  go_enter Tryz.func16, Tryz.ntmps16
  go_wp2
  go_end0
  exact ⟨rfl, by first | exact Below.refl _ _ | exact below_drew1 (Below.refl _ _) | exact pw_below_drewN (Below.refl _ _)⟩
theorem results_cs (tmps : Array Value) (w : World) (g g' : Nat) (t : TypeId) (cs : Array Value)
    (hp : tmps.getD 4 undef = .pointer (some ⟨g, 0, none⟩)) (hg : w.heap[g]? = some (.cells cs t (0, 0))) (hi : (Tryz.prog.info? 39).map (·.size) = some cs.size)
    (hp' : tmps.getD 5 undef = .pointer (some ⟨g', 0, none⟩)) (hg' : w.heap[g']? = some (.cells #[.int .i64 0] 40 (0, 0))) :
    (results Tryz.f10 tmps).run Tryz.prog w = .ok (.tuple #[.agg cs, .int .i64 0]) w := by
  have h1 : tmps[4]?.getD undef = .pointer (some ⟨g, 0, none⟩) := by simpa using hp
  have h2 : tmps[5]?.getD undef = .pointer (some ⟨g', 0, none⟩) := by simpa using hp'
  have hc : w.cell? ⟨g', 0, none⟩ = some (.int .i64 0) := (blk_cell hg' 0).trans rfl
  have h3 : (loadVar 40 ⟨g', 0, none⟩).run Tryz.prog w = .ok (.int .i64 0) w := by
    go_simp
  have hr : Tryz.f10.results = #[.cell 4 39, .cell 5 40] := rfl
  simp [results, hr, h1, h2, asAddr, run_loadVar_row w g t 39 cs (0, 0) _ hg Tryz.underlying39 rfl hi, h3]
theorem Marks.form {W : World} {g : Nat} {v : Value} {a : Int} (h : Marks W g v a) : ∃ p n c, v = .slice p n c := by
  rcases h with h | ⟨a0, h1, h2, g1, c, h3, _⟩
  · exact ⟨_, _, _, h⟩
  · exact ⟨_, _, _, h3⟩
theorem Marks.slc {W : World} {g : Nat} {v : Value} {a : Int} (h : Marks W g v a) : ∃ o, Slc W v o ∧ ∀ x, o = some x → 0 ≤ x ∧ x ≤ a := by
  rcases h with h | ⟨a0, h1, h2, h3⟩
  · exact ⟨none, h, fun x hx => by cases hx⟩
  · exact ⟨some a0, h3.mk1, fun x hx => by injection hx with hx; subst hx; exact ⟨h1, h2⟩⟩
set_option maxHeartbeats 1600000 in
set_option maxRecDepth 100000 in
theorem catch13 (a b c : Option Addr) (w : World) :
    CallsD Tryz.prog 13 #[.pointer a, .pointer b, .pointer c] .returning w fun e u' w' => e = .returned (.tuple #[]) ∧ u' = .returning ∧ w' = w := by
  have ht : ∀ W : World, (Instr.typeAssert .nilIface 20 40 true).run Tryz.prog W = .ok (.tuple #[.int .i64 0, .bool false]) W := fun _ => by kernel_rfl
  refine callsD_of_wpS Tryz.func13 rfl fun c₀ cs hu => ?_
  apply wpS_seq
  apply wpS_region
  simp [wpOpsS, go_sem, recoverD, hu, Tryz.ntmps13, Exit.thenS, ht]
  apply wpS_seq
  apply wpS_region
  simp [wpOpsS, go_sem, recoverD, hu, Tryz.ntmps13, Exit.thenS, ht]
  refine wpS_cond (t := false) (by simp [Act.eval, Array.replicate]) ?_
  simp only [Bool.false_eq_true, if_false]
  refine wpS_of_wp (wp_skip ?_)
  cases c₀
  simp_all [bodyPostS, results, Tryz.results13]
theorem slc_off1 {W W' : World} {g : Nat} {v : Value} {o : Option Int} {cs : Array Value} {t : TypeId} (h : Slc W v o) (hG : W.heap[g]? = some (.cells cs t (0, 0))) (hm : cs[1]? = none) (k : W.grownBy W' (some g)) : Slc W' v o := by
  cases o with
  | none => exact h
  | some a =>
    obtain ⟨g1, c, h1, h2, h3, h4⟩ := (h : Mk1 W v a)
    have hne : g1 ≠ g := by
      rintro rfl
      rw [blk_cell hG 1, hm] at h4
      cases h4
    exact (MkN.grow ⟨g1, c, h1, h2, h3, h4, hne⟩ k).mk1
/-- As 'DoF', and the connection, with its marks, in a block of its own. -/
structure DoL (w W : World) (cs ev zs : Array Value) (g : Nat) (c : Array Value) (v : Value) (a : Int) : Prop where
  f : DoF w W cs ev zs
  hg : w.heap.size + 1 + 1 + 1 < g
  b : W.heap[g]? = some (.cells c 59 (0, 0))
  m : Marks W g v a
section
variable {w W W' : World} {cs ev zs c : Array Value} {g : Nat} {v : Value} {a : Int}
theorem Marks.below (h : Marks W g v a) (k : Below W.heap.size W W') : Marks W' g v a := by
  rcases h with h | ⟨a0, h1, h2, h3⟩
  · exact .inl h
  · exact .inr ⟨a0, h1, h2, h3.below k⟩
theorem DoL.below (h : DoL w W cs ev zs g c v a) (k : Below W.heap.size W W') : DoL w W' cs ev zs g c v a := ⟨h.f.below k, h.hg, blk_below h.b k, h.m.below k⟩
theorem DoL.alloc (h : DoL w W cs ev zs g c v a) (o : Obj) : DoL w (W.alloc o) cs ev zs g c v a := h.below (below_alloc (Below.refl _ _) _)
theorem DoL.drew (h : DoL w W cs ev zs g c v a) : DoL w W.drew cs ev zs g c v a := h.below (below_drew1 (Below.refl _ _))
theorem DoL.drewN (h : DoL w W cs ev zs g c v a) (n : Nat) : DoL w (W.drewN n) cs ev zs g c v a := h.below (pw_below_drewN (Below.refl _ _) n)
theorem DoL.set (h : DoL w W cs ev zs g c v a) (i : Nat) (u : Value) : DoL w (W.setCell ⟨g, i, none⟩ u) cs ev zs g (c.setIfInBounds i u) v a := ⟨h.f.set h.hg i u, h.hg, blk_set h.b i u, h.m.grow (gr_set (gr_refl _ _) i u)⟩
theorem DoL.grow {c' : Array Value} {v' : Value} (h : DoL w W cs ev zs g c v a) (k : W.grownBy W' (some g)) (b : W'.heap[g]? = some (.cells c' 59 (0, 0))) (m : Marks W' g v' a) : DoL w W' cs ev zs g c' v' a := ⟨h.f.grow h.hg k, h.hg, b, m⟩
theorem slc_marks {o : Option Int} (h : Slc W v o) (ho : ∀ x, o = some x → 0 ≤ x ∧ x ≤ a) (hg : W.heap.size ≤ g) : Marks W g v a := by
  cases o with
  | none => exact .inl h
  | some x =>
    obtain ⟨g1, c1, h1, h2, h3, h4⟩ := (h : Mk1 W v x)
    exact .inr ⟨x, (ho x rfl).1, (ho x rfl).2, g1, c1, h1, h2, h3, h4, by have := World.block_lt_of_cell? _ _ h3; simp only at this; omega⟩
/-- The connection is laid into its block. -/
theorem DoL.new {z : Array Value} {o : Option Int} (h : DoF w W cs ev zs) (hs : Slc W v o) (ho : ∀ x, o = some x → 0 ≤ x ∧ x ≤ a) : DoL w ((W.alloc (.cells z 59 (0, 0))).setRow W.heap.size c) cs ev zs W.heap.size c v a :=
  ⟨(h.alloc _).row h.lt c, h.lt, setRow_heap _ _ _ _ _ _ (blk_new W _), ((slc_marks hs ho (Nat.le_refl _)).below (below_alloc (Below.refl _ _) (.cells z 59 (0, 0)))).grow (gr_row (gr_refl _ _) _)⟩
end
def zs39 : Array Value := #[.int .i64 0, .int .i64 0, .int .i64 0, .int .i64 0, .int .i64 0, .int .i64 0, .int .i64 0, .int .i64 0, .int .i64 0, .int .i64 0, .int .i64 0, .int .i64 0, .int .i64 0, .int .i64 0, .int .i64 0, .bool false, .int .i64 0, .int .i64 0, .slice none 0 0, .int .i64 0, .int .i64 0, .int .i64 0, .int .i64 0, .int .i64 0, .bool false, .bool false, .int .i64 0, .int .i64 0, .bool false, .int .i64 0, .int .i64 0, .int .i64 0, .int .i64 0, .int .i64 0, .int .i64 0, .int .i64 0, .int .i64 0, .int .i64 0, .bool false]
set_option maxHeartbeats 1600000 in
set_option maxRecDepth 100000 in
theorem doG.calls (cs : Array Value) (C1 C2 C3 : Value → Array Value) (k at_ n rtt now bat have_ r bu h2 : Int) (F i : Nat) (o : Option Int) (w : World)
    (hsz : cs.size = 39) (hsz1 : ∀ v, (C1 v).size = 39) (hsz3 : ∀ v, (C3 v).size = 39) (hal1 : ∀ p m c, (C1 (.slice p m c)).all (·.oneCell') = true) (hal3 : ∀ p m c, (C3 (.slice p m c)).all (·.oneCell') = true)
    (H7 : cs[7]? = some (.int .i64 now)) (H36 : ∀ v, (C1 v)[36]? = some (.int .i64 bat)) (H37 : ∀ v, (C1 v)[37]? = some (.int .i64 have_))
    (HC2 : ∀ v, (((C1 v).setIfInBounds 36 (.int .i64 at_)).setIfInBounds 37 (.int .i64 h2)).setIfInBounds 7 (.int .i64 at_) = C2 v)
    (a0 : 0 ≤ at_) (a1 : at_ ≤ 1099511627776) (a2 : now ≤ at_)
    (HK : ∀ W, Below w.heap.size w W → Calls Tryz.prog 15 #[.agg cs] W fun e w' => e = .returned (.bool true) ∧ Below W.heap.size W w')
    (HE : ∀ W, Calls Tryz.prog 17 #[.agg #[.int .i64 k, .int .i64 at_, .int .i64 n, .int .i64 rtt]] W fun e w' => e = .returned (.int .i64 0) ∧ Below W.heap.size W w')
    (HO : ∀ W, Below w.heap.size w W → Calls Tryz.prog 14 #[.agg cs] W fun e w' => ∃ p m c, e = .returned (.agg (C1 (.slice p m c))) ∧ Slc w' (.slice p m c) o ∧ Below W.heap.size W w')
    (ho : ∀ x, o = some x → 0 ≤ x ∧ x ≤ at_)
    (HR : ∀ g v W, W.heap[g]? = some (.cells (C1 v) 59 (0, 0)) → Calls Tryz.prog 22 #[.pointer (some ⟨g, 0, none⟩)] W fun e w' => e = .returned (.int .i64 r) ∧ Below W.heap.size W w')
    (HB : ∀ g v W, W.heap[g]? = some (.cells (C1 v) 59 (0, 0)) → Calls Tryz.prog 23 #[.pointer (some ⟨g, 0, none⟩)] W fun e w' => e = .returned (.int .i64 bu) ∧ Below W.heap.size W w')
    (HF : ∀ W, Calls Tryz.prog 21 #[.agg #[.int .i64 bat, .int .i64 have_], .int .i64 at_, .int .i64 r, .int .i64 bu] W fun e w' => e = .returned (.tuple #[.agg #[.int .i64 at_, .int .i64 h2], .int .i64 0]) ∧ Below W.heap.size W w')
    (hfind : Instr.findNow (.int .i64) (.int .i64 k) (entsD 7).toList 0 = some (some (i, .func (.func F) #[] #[])))
    (hcall : ∀ (args : Array Value) (W : World), (callFunc F args).run Tryz.prog W = .ok (.enter F args) W)
    (HS : ∀ g v W, W.heap[g]? = some (.cells (C2 v) 59 (0, 0)) → Marks W g v at_ → Calls Tryz.prog F #[.pointer (some ⟨g, 0, none⟩), .agg #[.int .i64 k, .int .i64 at_, .int .i64 n, .int .i64 rtt]] W fun e w' => e = .returned (.tuple #[]) ∧ ∃ v', w'.heap[g]? = some (.cells (C3 v') 59 (0, 0)) ∧ Marks w' g v' at_ ∧ W.grownBy w' (some g)) :
    Calls Tryz.prog 10 #[.agg cs, .agg #[.int .i64 k, .int .i64 at_, .int .i64 n, .int .i64 rtt]] w fun e w' => ∃ p m c o', e = .returned (.tuple #[.agg (C3 (.slice p m c)), .int .i64 0]) ∧ Slc w' (.slice p m c) o' ∧ (∀ x, o' = some x → 0 ≤ x ∧ x ≤ at_) ∧ Below w.heap.size w w' := by
  have hmf : ∀ (fn : Fn) (first cap : Array Value) (w : World), (Instr.makeFunc fn first cap).run Tryz.prog w = .ok (.func fn first cap) w := fun _ _ _ _ => rfl
  have SZ := Aside0.mk (show (Tryz.prog.info? 39).map (·.size) = some cs.size from by rw [hsz]; kernel_rfl)
  have SZ1 := Aside0.mk (show ∀ v, (Tryz.prog.info? 59).map (·.size) = some (C1 v).size from fun v => by rw [hsz1]; kernel_rfl)
  have SZ3 := Aside0.mk (show ∀ v, (Tryz.prog.info? 39).map (·.size) = some (C3 v).size from fun v => by rw [hsz3]; kernel_rfl)
  have SQ1 := Aside0.mk (show ∀ v, zs39.size = (C1 v).size from fun v => by rw [hsz1]; rfl)
  have SQ3 := Aside0.mk (show ∀ v, zs39.size = (C3 v).size from fun v => by rw [hsz3]; rfl)
  clear hsz hsz1 hsz3
  replace hal1 := Aside0.mk hal1
  replace hal3 := Aside0.mk hal3
  replace H7 := Aside0.mk H7
  replace H36 := Aside0.mk H36
  replace H37 := Aside0.mk H37
  replace HC2 := Aside0.mk HC2
  replace HK := Aside0.mk HK
  replace HE := Aside0.mk HE
  replace HO := Aside0.mk HO
  replace ho := Aside0.mk ho
  replace HR := Aside0.mk HR
  replace HB := Aside0.mk HB
  replace HF := Aside0.mk HF
  replace HS := Aside0.mk HS
  replace hfind := Aside0.mk hfind
  replace hcall := Aside0.mk hcall
  have ST := Aside0.mk (fun W => step.calls now at_ W a0 a1 a2)
  go_enter_defers Tryz.func10, Tryz.ntmps10
  go_upto_region 2 with (fail)
  refine name_world (fun W => DoF w W cs #[.int .i64 k, .int .i64 at_, .int .i64 n, .int .i64 rtt] zs39) ⟨by (repeat (first | (with_reducible refine new_at _ _ _ ?hn; (case hn => first | rfl | (simp; done))) | with_reducible refine blk_alloc ?_ _ | with_reducible refine blk_drewN ?_ _ | with_reducible refine blk_drew ?_ | (with_reducible refine blk_far ?_ ?hb _; (case hb => first | omega | (simp; done) | (simp; omega))))), by (repeat (first | (with_reducible refine new_at _ _ _ ?hn; (case hn => first | rfl | (simp; done))) | with_reducible refine blk_alloc ?_ _ | with_reducible refine blk_drewN ?_ _ | with_reducible refine blk_drew ?_ | (with_reducible refine blk_far ?_ ?hb _; (case hb => first | omega | (simp; done) | (simp; omega))))), by unfold zs39; (repeat (first | (with_reducible refine new_at _ _ _ ?hn; (case hn => first | rfl | (simp; done))) | with_reducible refine blk_alloc ?_ _ | with_reducible refine blk_drewN ?_ _ | with_reducible refine blk_drew ?_ | (with_reducible refine blk_far ?_ ?hb _; (case hb => first | omega | (simp; done) | (simp; omega))))), by (repeat (first | (with_reducible refine new_at _ _ _ ?hn; (case hn => first | rfl | (simp; done))) | with_reducible refine blk_alloc ?_ _ | with_reducible refine blk_drewN ?_ _ | with_reducible refine blk_drew ?_ | (with_reducible refine blk_far ?_ ?hb _; (case hb => first | omega | (simp; done) | (simp; omega))))), by (repeat (first | with_reducible exact HB.out | with_reducible exact Below.refl _ _ | with_reducible apply below_alloc | with_reducible apply pw_below_drewN | with_reducible apply below_drew1 | (with_reducible refine below_set ?_ ?hy; (case hy => omega))))⟩ ?_
  intro w1 F
  replace F := Aside0.mk F
  go_upto_region 4 with (first | ((with_reducible refine gate_dst (N := 10) rfl ?_); refine wpList_load_row rfl 39 (.tmp 2) rfl (w.heap.size) rfl 39 cs (0, 0) _ F.out.b0 Tryz.underlying39 rfl SZ.out ?_) | ((with_reducible refine (HK.out _ F.out.hb).mono ?_); rintro e_ w2 ⟨rfl, hq⟩; have F' := Aside0.mk (F.out.below hq); clear F hq; have F := F'; clear F') | fail)
  go_upto_region 5 with (first | ((with_reducible refine gate_dst (N := 14) rfl ?_); refine wpList_load_row rfl 52 (.tmp 3) rfl (w.heap.size + 1) rfl 52 #[.int .i64 k, .int .i64 at_, .int .i64 n, .int .i64 rtt] (0, 0) _ F.out.b1 Tryz.underlying52 rfl (by kernel_rfl) ?_) | ((with_reducible refine (HE.out _).mono ?_); rintro e_ w3 ⟨rfl, hq⟩; have F' := Aside0.mk (F.out.below hq); clear F hq; have F := F'; clear F') | ((with_reducible refine (must.calls _).mono ?_); rintro e_ w4 ⟨rfl, hq⟩; have F' := Aside0.mk (F.out.below hq); clear F hq; have F := F'; clear F') | fail)
  go_upto_region 6 with (first | ((with_reducible refine gate_dst (N := 17) rfl ?_); refine wpList_load_row rfl 39 (.tmp 2) rfl (w.heap.size) rfl 39 cs (0, 0) _ F.out.b0 Tryz.underlying39 rfl SZ.out ?_) | ((with_reducible refine (HO.out _ F.out.hb).mono ?_); rintro e_ w5 ⟨p, m, c, rfl, hs, hq⟩; have HM := Aside0.mk hs; clear hs; have F' := Aside0.mk (F.out.below hq); clear F hq; have F := F'; clear F') | ((with_reducible refine gate_store (t := 59) (p := 6) rfl ?_); refine wpList_store_row rfl 59 (.tmp 6) (.tmp 18) rfl (w5.heap.size) (C1 (.slice p m c)) rfl rfl 59 zs39 (by unfold zs39; exact blk_new _ _) (SZ1.out _) (SQ1.out _) (hal1.out _ _ _) ?_) | fail)
  refine name_world (fun W => DoL w W cs #[.int .i64 k, .int .i64 at_, .int .i64 n, .int .i64 rtt] zs39 w5.heap.size (C1 (.slice p m c)) (.slice p m c) at_) (DoL.new F.out HM.out ho.out) ?_
  intro w6 L
  obtain ⟨g, hg⟩ : ∃ g : Nat, g = w5.heap.size := ⟨_, rfl⟩
  rw [← hg] at L ⊢
  clear F HM hg HO HK HE SZ ho
  replace L := Aside0.mk L
  have f7 : w6.cell? ⟨w.heap.size, 7, none⟩ = some (.int .i64 now) := (blk_cell L.out.f.b0 7).trans H7.out
  have e1 : w6.cell? ⟨w.heap.size + 1, 1, none⟩ = some (.int .i64 at_) := (blk_cell L.out.f.b1 1).trans rfl
  go_upto_region 7 with (first | ((with_reducible refine (ST.out _).mono ?_); rintro e_ w7 ⟨rfl, hq⟩; have L' := Aside0.mk (DoL.below (by first | exact L.out | exact L.out.drew) hq); clear L hq; have L := L'; clear L'; clear f7 e1) | ((with_reducible refine (gotI.calls _ _).mono ?_); rintro e_ w8 ⟨rfl, hq⟩; have L' := Aside0.mk (DoL.below (by first | exact L.out | exact L.out.drew) hq); clear L hq; have L := L'; clear L') | fail)
  clear ST H7
  have c36 : w8.cell? ⟨g, 36, none⟩ = some (.int .i64 bat) := (blk_cell L.out.b 36).trans (H36.out _)
  have c37 : w8.cell? ⟨g, 37, none⟩ = some (.int .i64 have_) := (blk_cell L.out.b 37).trans (H37.out _)
  have fr36 : w8.frozen? ⟨g, 36, none⟩ = false := blk_frozen L.out.b 36
  have fr37 : w8.frozen? ⟨g, 37, none⟩ = false := blk_frozen L.out.b 37
  go_cut [38] from 27 to 38 (fun v_ wx => Aside0 (DoL w wx cs #[.int .i64 k, .int .i64 at_, .int .i64 n, .int .i64 rtt] zs39 g (((C1 (.slice p m c)).setIfInBounds 36 (.int .i64 at_)).setIfInBounds 37 (.int .i64 h2)) (.slice p m c) at_))
  case first =>
    refine wp_region_noPanic ?_
    go_region_with (first | (go_at_call 22; (with_reducible refine (HR.out _ (.slice p m c) _ ?hbk).mono ?_); (case hbk => first | exact L.out.b | exact L.out.drew.b); rintro e_ w9 ⟨rfl, hq⟩; have L' := Aside0.mk (DoL.below (by first | exact L.out | exact L.out.drew) hq); clear L hq; clear c36 c37 fr36 fr37; have L := L'; clear L'; have c36 : w9.cell? ⟨g, 36, none⟩ = some (.int .i64 bat) := (blk_cell L.out.b 36).trans (H36.out _); have c37 : w9.cell? ⟨g, 37, none⟩ = some (.int .i64 have_) := (blk_cell L.out.b 37).trans (H37.out _); have fr36 : w9.frozen? ⟨g, 36, none⟩ = false := blk_frozen L.out.b 36; have fr37 : w9.frozen? ⟨g, 37, none⟩ = false := blk_frozen L.out.b 37) | (go_at_call 23; (with_reducible refine (HB.out _ (.slice p m c) _ ?hbk).mono ?_); (case hbk => first | exact L.out.b | exact L.out.drew.b); rintro e_ w10 ⟨rfl, hq⟩; have L' := Aside0.mk (DoL.below (by first | exact L.out | exact L.out.drew) hq); clear L hq; clear c36 c37 fr36 fr37; have L := L'; clear L'; have c36 : w10.cell? ⟨g, 36, none⟩ = some (.int .i64 bat) := (blk_cell L.out.b 36).trans (H36.out _); have c37 : w10.cell? ⟨g, 37, none⟩ = some (.int .i64 have_) := (blk_cell L.out.b 37).trans (H37.out _); have fr36 : w10.frozen? ⟨g, 36, none⟩ = false := blk_frozen L.out.b 36; have fr37 : w10.frozen? ⟨g, 37, none⟩ = false := blk_frozen L.out.b 37) | (go_at_call 21; (with_reducible refine (HF.out _).mono ?_); rintro e_ w11 ⟨rfl, hq⟩; have L' := Aside0.mk (DoL.below (by first | exact L.out | exact L.out.drew) hq); clear L hq; clear c36 c37 fr36 fr37; have L := L'; clear L'; have c36 : w11.cell? ⟨g, 36, none⟩ = some (.int .i64 bat) := (blk_cell L.out.b 36).trans (H36.out _); have c37 : w11.cell? ⟨g, 37, none⟩ = some (.int .i64 have_) := (blk_cell L.out.b 37).trans (H37.out _); have fr36 : w11.frozen? ⟨g, 36, none⟩ = false := blk_frozen L.out.b 36; have fr37 : w11.frozen? ⟨g, 37, none⟩ = false := blk_frozen L.out.b 37) | (go_at_call 20; (with_reducible refine (gotB.calls _ _ _).mono ?_); rintro e_ w12 ⟨rfl, hq⟩; have L' := Aside0.mk (DoL.below (by first | exact L.out | exact L.out.drew) hq); clear L hq; clear c36 c37 fr36 fr37; have L := L'; clear L'; have c36 : w12.cell? ⟨g, 36, none⟩ = some (.int .i64 bat) := (blk_cell L.out.b 36).trans (H36.out _); have c37 : w12.cell? ⟨g, 37, none⟩ = some (.int .i64 have_) := (blk_cell L.out.b 37).trans (H37.out _); have fr36 : w12.frozen? ⟨g, 36, none⟩ = false := blk_frozen L.out.b 36; have fr37 : w12.frozen? ⟨g, 37, none⟩ = false := blk_frozen L.out.b 37))
    all_goals refine NoPanic.normal ?_
    all_goals go_wp2_with fail
    all_goals go_meet
    all_goals exact ⟨(L.out.set 36 _).set 37 _⟩
  case rest =>
    clear c36 c37 fr36 fr37 L HR HB HF H36 H37
    have L := hcut
    clear hcut
    have f7 : wc.frozen? ⟨g, 7, none⟩ = false := blk_frozen L.out.b 7
    have c7 : ∃ x, wc.cell? ⟨g, 7, none⟩ = some x := by
      have e := blk_cell L.out.b 7
      have hz : 7 < (((C1 (.slice p m c)).setIfInBounds 36 (.int .i64 at_)).setIfInBounds 37 (.int .i64 h2)).size := by simp [← SQ1.out (.slice p m c), zs39]
      exact ⟨_, e.trans (Array.getElem?_eq_getElem hz)⟩
    obtain ⟨x7, c7⟩ := c7
    go_upto_region 9 with (fail)
    clear f7 c7
    refine name_world (fun W => DoL w W cs #[.int .i64 k, .int .i64 at_, .int .i64 n, .int .i64 rtt] zs39 g (C2 (.slice p m c)) (.slice p m c) at_) (by rw [← HC2.out]; exact L.out.set 7 _) ?_
    clear L
    intro w13 L
    replace L := Aside0.mk L
    have hmm : ∀ X : World, (Instr.makeMap 72 none).run Tryz.prog X = .ok (.map (some X.heap.size)) (X.alloc (.map (entsD 0) 0)) := fun X => @run_makeMap Tryz.prog 72 X
    have i0 : ∀ (X : World) (k : Nat), k = X.heap.size → (Instr.mapUpdate 72 (.map (some k)) (.int .i64 6) (.func (.func 24) #[] #[])).run Tryz.prog (X.alloc (.map (entsD 0) 0)) = .ok () (X.alloc (.map (entsD 1) 1)) := by
      rintro X k rfl
      exact ins_run Tryz.underlying72 Tryz.underlying3 rfl
    have i1 : ∀ (X : World) (k : Nat), k = X.heap.size → (Instr.mapUpdate 72 (.map (some k)) (.int .i64 1) (.func (.func 25) #[] #[])).run Tryz.prog (X.alloc (.map (entsD 1) 1)) = .ok () (X.alloc (.map (entsD 2) 2)) := by
      rintro X k rfl
      exact ins_run Tryz.underlying72 Tryz.underlying3 rfl
    have i2 : ∀ (X : World) (k : Nat), k = X.heap.size → (Instr.mapUpdate 72 (.map (some k)) (.int .i64 2) (.func (.func 26) #[] #[])).run Tryz.prog (X.alloc (.map (entsD 2) 2)) = .ok () (X.alloc (.map (entsD 3) 3)) := by
      rintro X k rfl
      exact ins_run Tryz.underlying72 Tryz.underlying3 rfl
    have i3 : ∀ (X : World) (k : Nat), k = X.heap.size → (Instr.mapUpdate 72 (.map (some k)) (.int .i64 3) (.func (.func 27) #[] #[])).run Tryz.prog (X.alloc (.map (entsD 3) 3)) = .ok () (X.alloc (.map (entsD 4) 4)) := by
      rintro X k rfl
      exact ins_run Tryz.underlying72 Tryz.underlying3 rfl
    have i4 : ∀ (X : World) (k : Nat), k = X.heap.size → (Instr.mapUpdate 72 (.map (some k)) (.int .i64 4) (.func (.func 28) #[] #[])).run Tryz.prog (X.alloc (.map (entsD 4) 4)) = .ok () (X.alloc (.map (entsD 5) 5)) := by
      rintro X k rfl
      exact ins_run Tryz.underlying72 Tryz.underlying3 rfl
    have i5 : ∀ (X : World) (k : Nat), k = X.heap.size → (Instr.mapUpdate 72 (.map (some k)) (.int .i64 5) (.func (.func 29) #[] #[])).run Tryz.prog (X.alloc (.map (entsD 5) 5)) = .ok () (X.alloc (.map (entsD 6) 6)) := by
      rintro X k rfl
      exact ins_run Tryz.underlying72 Tryz.underlying3 rfl
    have i6 : ∀ (X : World) (k : Nat), k = X.heap.size → (Instr.mapUpdate 72 (.map (some k)) (.int .i64 7) (.func (.func 30) #[] #[])).run Tryz.prog (X.alloc (.map (entsD 6) 6)) = .ok () (X.alloc (.map (entsD 7) 7)) := by
      rintro X k rfl
      exact ins_run Tryz.underlying72 Tryz.underlying3 rfl
    go_upto_region 10 with (fail)
    clear hmm i0 i1 i2 i3 i4 i5 i6
    refine name_world (fun W => DoL w W cs #[.int .i64 k, .int .i64 at_, .int .i64 n, .int .i64 rtt] zs39 g (C2 (.slice p m c)) (.slice p m c) at_ ∧ W.heap[w13.heap.size]? = some (.map (entsD 7) 7)) ⟨L.out.alloc _, blk_new _ _⟩ ?_
    clear L
    rintro w14 ⟨L, hm14⟩
    replace L := Aside0.mk L
    have lk : (Instr.lookup 72 (.map (some w13.heap.size)) (.int .i64 k) false).run Tryz.prog w14 = .ok (.func (.func F) #[] #[]) w14 := look_hit1 (i := i) Tryz.underlying72 Tryz.underlying3 hm14 hfind.out
    clear hm14
    have e0 : w14.cell? ⟨w.heap.size + 1, 0, none⟩ = some (.int .i64 k) := (blk_cell L.out.f.b1 0).trans rfl
    have hcw := hcall.out #[.pointer (some ⟨g, 0, none⟩), .agg #[.int .i64 k, .int .i64 at_, .int .i64 n, .int .i64 rtt]] w14
    go_upto_region 11 with (first | ((with_reducible refine gate_dst (N := 48) rfl ?_); refine wpList_load_row rfl 52 (.tmp 3) rfl (w.heap.size + 1) rfl 52 #[.int .i64 k, .int .i64 at_, .int .i64 n, .int .i64 rtt] (0, 0) _ L.out.f.b1 Tryz.underlying52 rfl (by kernel_rfl) ?_) | ((with_reducible refine (HS.out _ _ _ L.out.b L.out.m).mono ?_); rintro e_ w15 ⟨rfl, v', hb', hm', hq⟩; obtain ⟨p1, m1, c1, rfl⟩ := hm'.form; have L' := Aside0.mk (L.out.grow hq hb' hm'); clear L lk e0 hcw hb' hm' hq; have L := L'; clear L') | fail)
    clear HS hcall HC2 SZ1 SQ1 hal1 hfind
    have r3 : (w15.setRow (w.heap.size + 1 + 1) (C3 (.slice p1 m1 c1))).heap[w.heap.size + 1 + 1 + 1]? = some (.cells #[.int .i64 0] 40 (0, 0)) := blk_row L.out.f.b3 (by omega) _
    have c3 : (w15.setRow (w.heap.size + 1 + 1) (C3 (.slice p1 m1 c1))).cell? ⟨w.heap.size + 1 + 1 + 1, 0, none⟩ = some (.int .i64 0) := (blk_cell r3 0).trans rfl
    have fr3 : (w15.setRow (w.heap.size + 1 + 1) (C3 (.slice p1 m1 c1))).frozen? ⟨w.heap.size + 1 + 1 + 1, 0, none⟩ = false := blk_frozen r3 0
    replace r3 := Aside0.mk r3
    go_wp2_with (first | ((with_reducible refine gate_dst (N := 51) rfl ?_); refine wpList_load_row rfl 39 (.tmp 50) rfl g rfl 59 (C3 (.slice p1 m1 c1)) (0, 0) _ L.out.b Tryz.underlying39 rfl (SZ3.out _) ?_) | ((with_reducible refine gate_store (t := 39) (p := 4) rfl ?_); refine wpList_store_row rfl 39 (.tmp 4) (.tmp 51) rfl (w.heap.size + 1 + 1) (C3 (.slice p1 m1 c1)) rfl rfl 39 zs39 L.out.f.b2 (SZ3.out _) (SQ3.out _) (hal3.out _ _ _) ?_) | fail)
    clear c3 fr3
    refine leaves_cons (f := 13) (args := #[.pointer (some ⟨w.heap.size, 0, none⟩), .pointer (some ⟨w.heap.size + 1 + 1, 0, none⟩), .pointer (some ⟨w.heap.size + 1 + 1 + 1, 0, none⟩)]) (by simp) (by simp [go_sem]) ?_
    refine (catch13 _ _ _ _).mono ?_
    rintro e_ u_ w16 ⟨rfl, rfl, rfl⟩
    obtain ⟨o', hs', ho'⟩ := L.out.m.slc
    have hG : (w15.setRow (w.heap.size + 1 + 1) (C3 (.slice p1 m1 c1))).heap[w.heap.size + 1 + 1]? = some (.cells (C3 (.slice p1 m1 c1)) 39 (0, 0)) := setRow_heap _ _ _ _ _ _ L.out.f.b2
    refine ⟨_, results_cs _ _ (w.heap.size + 1 + 1) (w.heap.size + 1 + 1 + 1) 39 (C3 (.slice p1 m1 c1)) rfl (blk_far hG (by simp only; omega) _) (SZ3.out _) rfl (blk_put r3.out 0 _ rfl), p1, m1, c1, o', rfl, ?_, ho', ?_⟩
    · exact slc_off1 (Slc.off (m := 0) hs' L.out.f.b2 rfl (by decide) (gr_row (gr_refl _ _) _)) r3.out rfl (gr_set (gr_refl _ _) _ _)
    · exact (below_row L.out.f.hb (by omega) _).setCell (by simp only; omega) _

end Go.Proofs.YtpkjdjhojbadhaaGreatDoor.Hp
