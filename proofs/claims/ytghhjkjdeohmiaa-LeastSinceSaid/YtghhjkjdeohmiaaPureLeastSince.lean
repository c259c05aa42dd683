/- The plain law LeastSince. -/
import Derived.Test.YtghhjkjdeohmiaaPureSince
import Derived.Test.YtghhjkjdeohmiaaHpx20
namespace Go.Proofs.Ytghhjkjdeohmiaa.Pure
open Go.RowKit Go.Proofs.YtghhjkjdeohmiaaW.PrintWords Go.Proofs.Ytghhjkjdeohmiaa.Hp
set_option linter.unusedVariables false
set_option linter.unusedSimpArgs false
theorem LeastSince (l : List S28) (a b at_ : Int) (hl : ∀ x ∈ l, (Lit.int .i64 x.f0).wf = true ∧ (Lit.int .i64 x.f1).wf = true) (ha : (Lit.int .u32 a).wf = true) (hb : (Lit.int .u32 b).wf = true) (ht : (Lit.int .i64 at_).wf = true) : ∃ k, sawtoothlaw08_LeastSince.f k l a b at_ = some true := by
  have ha' : 0 ≤ a ∧ a ≤ 4294967295 := u32_in ha
  have hb' : 0 ≤ b ∧ b ≤ 4294967295 := u32_in hb
  refine ⟨1000, ?_⟩
  unfold sawtoothlaw08_LeastSince.f
  rw [awake_tells 1000 (by omega)]
  simp only [Option.bind_some]
  have up : sawtoothlaw08_LeastSince.j0 1000 l a b at_ true true = some true := by simp only [sawtoothlaw08_LeastSince.j0, if_true]
  by_cases hlen : (l.length : Int) > 100
  · rw [if_pos hlen]; exact up
  · rw [if_neg hlen, check_tells l (by omega) 1000 (by omega)]
    simp only [Option.bind_some]
    by_cases hG : Good l
    · rw [if_pos (decide_eq_true hG)]
      by_cases h0 : at_ < 0
      · rw [if_pos h0]; exact up
      · rw [if_neg h0]
        by_cases h1 : at_ > 1099511627776
        · rw [decide_eq_true h1]; exact up
        · rw [decide_eq_false h1]
          simp only [sawtoothlaw08_LeastSince.j0]
          rw [wrap64_id (n := a) (by omega), wrap64_id (n := b) (by omega), wrap64_id (n := at_ - a) (by omega), wrap64_id (n := at_ - b) (by omega)]
          have hs : ∀ w, 0 ≤ w → least_Since.f 999 l w at_ = some (sinceR w at_ l) := fun w hw => by rw [since_tells w at_ (by omega) l (by omega) 999 (by omega), if_pos ⟨hG, hw⟩]
          have hr : ∀ w, sawtoothref08_Least.f 999 l (at_ - w) at_ = some (sinceR w at_ l) := fun w => by rw [least_tells _ _ l (by omega) 999 (by omega), since_least w at_ l hG]
          rw [hs a ha'.1, hs b hb'.1, hr a, hr b]
          simp only [Option.bind_some, if_true, beq_self_eq_true]
          have wide := fun w W hw => since_wide w W at_ hw l hG
          have fin : ∀ w W, w ≤ W → (if (sinceR w at_ l).2 = true then if (sinceR W at_ l).2 = true then if (sinceR W at_ l).1 ≤ (sinceR w at_ l).1 then some true else some false else some false else some true) = some true := by
            intro w W hw
            by_cases h : (sinceR w at_ l).2 = true
            · obtain ⟨h1, h2⟩ := wide w W hw h
              rw [if_pos h, if_pos h1, if_pos h2]
            · rw [if_neg h]
          by_cases c1 : b < a
          · rw [if_pos c1]
            by_cases c2 : a < b
            · omega
            · rw [if_neg c2]
              exact fin b a (by omega)
          · rw [if_neg c1]
            by_cases c2 : a < b
            · rw [if_pos c2]
              exact fin a b (by omega)
            · rw [if_neg c2]
              exact fin a a (Int.le_refl _)
    · rw [if_neg (by simpa using hG)]; exact up

end Go.Proofs.Ytghhjkjdeohmiaa.Pure
