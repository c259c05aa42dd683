/- What is told of the marks is the least of all that count. Plain Lean. -/
import Derived.Test.YtghhjkjdeohmiaaPureMin
namespace Go.Proofs.Ytghhjkjdeohmiaa.Pure
open Go.RowKit Go.Proofs.YtghhjkjdeohmiaaW.PrintWords Go.Proofs.Ytghhjkjdeohmiaa.Hp
set_option linter.unusedVariables false
set_option linter.unusedSimpArgs false
theorem lastT {c : Int} {l all : List S28} (h : Inv c l all) : T ((lastAt all).getD 0) := by
  rw [← h.last]
  rcases List.eq_nil_or_concat l with rfl | ⟨l', b, rfl⟩
  · exact ⟨by decide, by decide⟩
  · rw [List.concat_eq_append, last_snoc]
    rw [List.concat_eq_append] at h
    exact h.good.1 b (by simp)
theorem all_le {c : Int} {l all : List S28} (h : Inv c l all) : ∀ x ∈ all, x.f0 ≤ (lastAt all).getD 0 := by
  intro x hx
  cases e : lastAt l with
  | none =>
    rcases List.eq_nil_or_concat l with rfl | ⟨l', b, rfl⟩
    · rw [h.empty rfl] at hx; cases hx
    · rw [List.concat_eq_append, last_snoc] at e; cases e
  | some a =>
    have := h.at_ x hx a e
    rw [← h.last, e]
    exact this
/-- What is told of the marks is the least of all that count, as the program reckons it. -/
theorem told {c : Int} {l all : List S28} {w : Int} (h : Inv c l all) (hc : c = (lastAt all).getD 0 - w) : leastR ((lastAt all).getD 0 - w) ((lastAt all).getD 0) 0 false all = ofG l := by
  rw [leastR_low _ _ all 0 false (all_le h) (fun _ => rfl), h.tells, hc]
  rfl
theorem puts_ok {l : List S28} {w at_ n : Int} (h : Good l) (hT : T at_) (hw : 0 ≤ w) (hl : Late l at_) : puts l w at_ n = (pl l w at_ n, 0) := by
  unfold puts; rw [if_pos ⟨h, hT, hw⟩, if_pos hl]
theorem puts_back {l : List S28} {w at_ n : Int} (h : Good l) (hT : T at_) (hw : 0 ≤ w) (hl : ¬ Late l at_) : puts l w at_ n = (l, 50) := by
  unfold puts; rw [if_pos ⟨h, hT, hw⟩, if_neg hl]
theorem puts_time {l : List S28} {w at_ n : Int} (h : ¬ (Good l ∧ T at_ ∧ 0 ≤ w)) : puts l w at_ n = (l, 51) := by
  unfold puts; rw [if_neg h]

end Go.Proofs.Ytghhjkjdeohmiaa.Pure
