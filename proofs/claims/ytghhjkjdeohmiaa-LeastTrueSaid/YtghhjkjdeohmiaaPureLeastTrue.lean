/- The plain law LeastTrue. -/
import Derived.Test.YtghhjkjdeohmiaaPureMin
import Derived.Test.YtghhjkjdeohmiaaHpx19
namespace Go.Proofs.Ytghhjkjdeohmiaa.Pure
open Go.RowKit Go.Proofs.YtghhjkjdeohmiaaW.PrintWords Go.Proofs.Ytghhjkjdeohmiaa.Hp
set_option linter.unusedVariables false
set_option linter.unusedSimpArgs false
theorem lastT {c : Int} {l all : List S28} (h : Inv c l all) : T ((lastAt all).getD 0) := by
  rw [← h.last]
  rcases List.eq_nil_or_concat l with rfl | ⟨l', b, rfl⟩
  · exact ⟨by decide, by decide⟩
  · rw [List.concat_eq_append, last_snoc]
    rw [List.concat_eq_append] at h
    exact h.good.1 b (by simp)
theorem all_le {c : Int} {l all : List S28} (h : Inv c l all) : ∀ x ∈ all, x.f0 ≤ (lastAt all).getD 0 := by
  intro x hx
  cases e : lastAt l with
  | none =>
    rcases List.eq_nil_or_concat l with rfl | ⟨l', b, rfl⟩
    · rw [h.empty rfl] at hx; cases hx
    · rw [List.concat_eq_append, last_snoc] at e; cases e
  | some a =>
    have := h.at_ x hx a e
    rw [← h.last, e]
    exact this
/-- What is told of the marks is the least of all that count, as the program reckons it. -/
theorem told {c : Int} {l all : List S28} {w : Int} (h : Inv c l all) (hc : c = (lastAt all).getD 0 - w) : leastR ((lastAt all).getD 0 - w) ((lastAt all).getD 0) 0 false all = ofG l := by
  rw [leastR_low _ _ all 0 false (all_le h) (fun _ => rfl), h.tells, hc]
  rfl
theorem true_j1 (w : Int) (hw : 0 ≤ w ∧ w ≤ 4294967295) (p : List S28) (k : Nat) (l all : List S28) (i : Nat) (hk : 300 < k) (hl : l.length ≤ 200) (ha : all.length ≤ 200) (h : Inv ((lastAt all).getD 0 - w) l all)
    (hn : sawtoothlaw08_LeastTrue.l0 k w p true l all (wrap64 ((i : Int) + 1)) = some true) : sawtoothlaw08_LeastTrue.j1 (k + 2) w p true l all (i : Int) = some true := by
  have hT := lastT h
  unfold T at hT
  have hj2 : sawtoothlaw08_LeastTrue.j2 (k + 1) w p true l all (i : Int) (ofG l).1 (ofG l).2 ((lastAt all).getD 0) = some true := by
    simp only [sawtoothlaw08_LeastTrue.j2]
    rw [wrap64_id (n := w) (by omega), wrap64_id (n := (lastAt all).getD 0 - w) (by omega), least_tells _ _ all (by omega) k (by omega), told h rfl]
    simp only [Option.bind_some, if_true, bne_self_eq_false, Bool.false_eq_true, if_false]
    rw [check_tells l (by omega) k (by omega), decide_eq_true h.good]
    simp only [Option.bind_some, if_true]
    exact hn
  simp only [sawtoothlaw08_LeastTrue.j1]
  rw [of_tells l (by omega) (k + 1) (by omega)]
  simp only [Option.bind_some]
  by_cases h0 : (all.length : Int) > 0
  · rw [if_pos h0, wrap64_id (n := (all.length : Int) - 1) (by omega), if_pos (by omega), if_pos (by omega)]
    have hla := last_at all (by omega)
    rw [hla] at hj2
    exact hj2
  · rw [if_neg h0]
    obtain rfl : all = [] := List.length_eq_zero_iff.1 (by omega)
    exact hj2
theorem true_loop (w : Int) (hw : 0 ≤ w ∧ w ≤ 4294967295) (p : List S28) (hp : p.length ≤ 100) (d : Nat) : ∀ (k i : Nat) (l all : List S28), i ≤ p.length → p.length - i = d → 3 * d + 400 < k → l.length ≤ i → all.length ≤ i → Inv ((lastAt all).getD 0 - w) l all →
    sawtoothlaw08_LeastTrue.l0 k w p true l all (i : Int) = some true := by
  induction d with
  | zero =>
    intro k i l all h1 hd hk _ _ _
    obtain ⟨k, rfl⟩ : ∃ m, k = m + 1 := ⟨k - 1, by omega⟩
    simp only [sawtoothlaw08_LeastTrue.l0]
    rw [if_neg (by omega)]
    rfl
  | succ d ih =>
    intro k i l all h1 hd hk hl ha h
    obtain ⟨k, rfl⟩ : ∃ m, k = m + 3 := ⟨k - 3, by omega⟩
    have hwr : wrap64 ((i : Int) + 1) = ((i + 1 : Nat) : Int) := by rw [wrap64_id (by omega)]; omega
    simp only [sawtoothlaw08_LeastTrue.l0]
    rw [if_pos (by omega), if_pos (by omega), wrap64_id (n := w) (by omega), put_tells l (by omega) w _ _ (by omega) (k + 2) (by omega)]
    simp only [Option.bind_some]
    generalize rd_T28 p (i : Int) = m
    have stay : sawtoothlaw08_LeastTrue.j1 (k + 2) w p true l all (i : Int) = some true := true_j1 w hw p k l all i (by omega) (by omega) (by omega) h (by rw [hwr]; exact ih k (i + 1) l all (by omega) (by omega) (by omega) (by omega) (by omega) h)
    unfold puts
    by_cases c1 : Good l ∧ T m.f0 ∧ 0 ≤ w
    · rw [if_pos c1]
      by_cases c2 : Late l m.f0
      · rw [if_pos c2]
        simp only [if_true]
        rw [if_pos (by omega)]
        have hi : Inv ((lastAt (all ++ [(⟨m.f0, m.f1⟩ : S28)])).getD 0 - w) (pl l w m.f0 m.f1) (all ++ [⟨m.f0, m.f1⟩]) := by
          rw [last_snoc]
          refine h.put c1.2.1 hw.1 c2 ?_
          rcases List.eq_nil_or_concat l with rfl | ⟨l', b, rfl⟩
          · exact .inr rfl
          · left
            rw [List.concat_eq_append] at *
            have h3 := c2 b.f0 (last_snoc _ _)
            rw [← h.last, last_snoc]
            simp only [Option.getD_some]
            omega
        have hlen := pl_length (l := l) (at_ := m.f0) (n := m.f1) hw.1
        exact true_j1 w hw p k _ _ i (by omega) (by omega) (by simp; omega) hi (by rw [hwr]; exact ih k (i + 1) _ _ (by omega) (by omega) (by omega) (by omega) (by simp; omega) hi)
      · rw [if_neg c2, if_neg (by simp)]
        exact stay
    · rw [if_neg c1, if_neg (by simp)]
      exact stay
theorem LeastTrue (w : Int) (p : List S28) (hw : (Lit.int .u32 w).wf = true) (hp : ∀ x ∈ p, (Lit.int .i64 x.f0).wf = true ∧ (Lit.int .i64 x.f1).wf = true) : ∃ k, sawtoothlaw08_LeastTrue.f k w p = some true := by
  refine ⟨1000, ?_⟩
  unfold sawtoothlaw08_LeastTrue.f
  rw [awake_tells 1000 (by omega)]
  simp only [Option.bind_some]
  by_cases h : (p.length : Int) > 100
  · rw [if_pos h]; rfl
  · rw [if_neg h]
    exact true_loop w (u32_in hw) p (by omega) p.length 1000 0 [] [] (Nat.zero_le _) rfl (by omega) (Nat.zero_le _) (Nat.zero_le _) (Inv.nil _)

end Go.Proofs.Ytghhjkjdeohmiaa.Pure
