/- A list and itself. Plain Lean. -/
import Derived.Test.YtghhjkjdeohmiaaPureTold
import Derived.Test.YtghhjkjdeohmiaaHpx14
namespace Go.Proofs.Ytghhjkjdeohmiaa.Pure
open Go.RowKit Go.Proofs.YtghhjkjdeohmiaaW.PrintWords Go.Proofs.Ytghhjkjdeohmiaa.Hp
set_option linter.unusedVariables false
set_option linter.unusedSimpArgs false
theorem same_loop (l : List S28) (hl : l.length ≤ 1000000) (d : Nat) : ∀ (k i : Nat), i ≤ l.length → l.length - i = d → d < k → sawtoothref08_Same.l0 k l l (i : Int) = some true := by
  induction d with
  | zero =>
    intro k i h1 hd hk
    obtain ⟨k, rfl⟩ : ∃ m, k = m + 1 := ⟨k - 1, by omega⟩
    simp only [sawtoothref08_Same.l0]
    rw [if_neg (by omega)]
  | succ d ih =>
    intro k i h1 hd hk
    obtain ⟨k, rfl⟩ : ∃ m, k = m + 1 := ⟨k - 1, by omega⟩
    have hwr : wrap64 ((i : Int) + 1) = ((i + 1 : Nat) : Int) := by rw [wrap64_id (by omega)]; omega
    simp only [sawtoothref08_Same.l0]
    rw [if_pos (by omega), if_pos (by omega), if_pos (by omega), if_neg (by simp), hwr]
    exact ih k (i + 1) (by omega) (by omega) (by omega)
theorem same_tells (l : List S28) (hl : l.length ≤ 1000000) (k : Nat) (hk : l.length < k) : sawtoothref08_Same.f k l l = some true := by
  unfold sawtoothref08_Same.f
  rw [if_pos rfl]
  exact same_loop l hl l.length k 0 (Nat.zero_le _) rfl hk

end Go.Proofs.Ytghhjkjdeohmiaa.Pure
