/- The marks of a connection: none, or one, in a block of its own. -/
import Derived.Test.YtpkjdjhojbadhaaGreatDoorTop16
import Derived.Test.YtpkjdjhojbadhaaGreatDoorTop14
set_option linter.unusedVariables false
set_option linter.unusedSimpArgs false
namespace Go.Proofs.YtpkjdjhojbadhaaGreatDoor.Hp
open Go.RowKit Go.Proofs.YtpkjdjhojbadhaaGreatDoorW.PrintWords Go.Proofs.YtpkjdjhojbadhaaGreatDoorW.PrintLast Go.Proofs.YtpkjdjhojbadhaaGreatDoorW.PrintMore
attribute [local go_sem] max2_int min2_int max_two min_two max_three min_three max_four min_four
/-- The slice v holds one mark, of the time a, in a block that is not g. -/
def MkN (W : World) (g : Nat) (v : Value) (a : Int) : Prop := ∃ g1 c, v = .slice (some ⟨g1, 0, none⟩) 1 c ∧ 1 ≤ c ∧ W.cell? ⟨g1, 0, none⟩ = some (.int .i64 a) ∧ W.cell? ⟨g1, 1, none⟩ = some (.int .i64 100000) ∧ g1 ≠ g
section
variable {W W' : World} {g : Nat} {v : Value} {a : Int}
theorem MkN.mk1 (h : MkN W g v a) : Mk1 W v a := by obtain ⟨g1, c, h1, h2, h3, h4, _⟩ := h; exact ⟨g1, c, h1, h2, h3, h4⟩
theorem MkN.drew (h : MkN W g v a) : MkN W.drew g v a := h
theorem MkN.drewN {n : Nat} (h : MkN W g v a) : MkN (W.drewN n) g v a := h
theorem MkN.below (h : MkN W g v a) (hb : Below W.heap.size W W') : MkN W' g v a := by
  obtain ⟨g1, c, h1, h2, h3, h4, h5⟩ := h
  exact ⟨g1, c, h1, h2, (hb.cell (World.block_lt_of_cell? _ _ h3)).trans h3, (hb.cell (World.block_lt_of_cell? _ _ h4)).trans h4, h5⟩
theorem MkN.alloc {o : Obj} (h : MkN W g v a) : MkN (W.alloc o) g v a := h.below (below_alloc (Below.refl _ _) _)
theorem MkN.grow (h : MkN W g v a) (k : W.grownBy W' (some g)) : MkN W' g v a := by
  obtain ⟨g1, c, h1, h2, h3, h4, h5⟩ := h
  have e := k.block g1 (World.block_lt_of_cell? _ _ h3) (fun e => h5 (by injection e))
  exact ⟨g1, c, h1, h2, (World.cell?_of_block (a := ⟨g1, 0, none⟩) e).trans h3, (World.cell?_of_block (a := ⟨g1, 1, none⟩) e).trans h4, h5⟩
theorem MkN.set {i : Nat} {u : Value} (h : MkN W g v a) : MkN (W.setCell ⟨g, i, none⟩ u) g v a := h.grow (gr_set (gr_refl _ _) i u)
theorem Mk1.mkN {cs : Array Value} {t : TypeId} {m : Int} (h : Mk1 W v a) (hG : W.heap[g]? = some (.cells cs t (0, 0))) (hm : cs[1]? = some (.int .i64 m)) (hne : m ≠ 100000) : MkN W g v a := by
  obtain ⟨g1, c, h1, h2, h3, h4⟩ := h
  refine ⟨g1, c, h1, h2, h3, h4, fun e => ?_⟩
  subst e
  rw [(blk_cell hG 1).trans hm] at h4
  injection h4 with h4
  injection h4 with _ h4
  exact hne h4
end
/-- The marks of a connection whose block is g: none, or one, of a time up to a. -/
def Marks (W : World) (g : Nat) (v : Value) (a : Int) : Prop := v = .slice none 0 0 ∨ ∃ a0, 0 ≤ a0 ∧ a0 ≤ a ∧ MkN W g v a0
theorem Marks.grow {W W' : World} {g : Nat} {v : Value} {a : Int} (h : Marks W g v a) (k : W.grownBy W' (some g)) : Marks W' g v a := by
  rcases h with h | ⟨a0, h1, h2, h3⟩
  · exact .inl h
  · exact .inr ⟨a0, h1, h2, h3.grow k⟩
theorem putM.calls (v : Value) (g : Nat) (a : Int) (W : World) (h : Marks W g v a) (h0 : 0 ≤ a) (h2 : a ≤ 1099511627776) :
    Calls Tryz.prog 109 #[v, .int .i64 10000000, .int .i64 a, .int .i64 100000] W fun e w' => ∃ v', e = .returned (.tuple #[v', .int .i64 0]) ∧ Mk1 w' v' a ∧ Below W.heap.size W w' := by
  rcases h with rfl | ⟨a0, h3, h4, h5⟩
  · exact put0.calls a W h0 h2
  · exact put1.calls v a0 a W h5.mk1 h3 h4 h2
/-- The slice v holds no mark, or one. -/
def Slc (W : World) (v : Value) : Option Int → Prop
  | none => v = .slice none 0 0
  | some a => Mk1 W v a
theorem Slc.below {W W' : World} {v : Value} {o : Option Int} (h : Slc W v o) (hb : Below W.heap.size W W') : Slc W' v o := by
  cases o with
  | none => exact h
  | some a => exact Mk1.below h hb
theorem Slc.form {W : World} {v : Value} {o : Option Int} (h : Slc W v o) : ∃ p n c, v = .slice p n c := by
  cases o with
  | none => exact ⟨_, _, _, h⟩
  | some a => obtain ⟨g, c, h1, _⟩ := h; exact ⟨_, _, _, h1⟩
theorem cloneO.calls (v : Value) (o : Option Int) (w : World) (h : Slc w v o) : Calls Tryz.prog 34 #[v] w fun e w' => ∃ v', e = .returned v' ∧ Slc w' v' o ∧ Below w.heap.size w w' := by
  cases o with
  | none =>
    obtain rfl : v = .slice none 0 0 := h
    exact (clone0.calls w).mono (fun e w' h => ⟨_, h.1, rfl, h.2⟩)
  | some a => exact clone1.calls v a w h

theorem gr_row {w W : World} {g : Nat} (h : w.grownBy W (some g)) (cs : Array Value) : w.grownBy (W.setRow g cs) (some g) := ⟨h.os, h.tape, h.output, by rw [setRow_size]; exact h.size, fun k hk hr => (setRow_other _ _ _ _ (fun e => hr (by rw [e]))).trans (h.block k hk hr)⟩
theorem Slc.off {W W' : World} {g : Nat} {v : Value} {o : Option Int} {cs : Array Value} {t : TypeId} {m : Int} (h : Slc W v o) (hG : W.heap[g]? = some (.cells cs t (0, 0))) (hm : cs[1]? = some (.int .i64 m)) (hne : m ≠ 100000) (k : W.grownBy W' (some g)) : Slc W' v o := by
  cases o with
  | none => exact h
  | some a => exact ((Mk1.mkN h hG hm hne).grow k).mk1

end Go.Proofs.YtpkjdjhojbadhaaGreatDoor.Hp
