/- The plain law LeastRises. -/
import Derived.Test.YtghhjkjdeohmiaaPureSame
import Derived.Test.YtghhjkjdeohmiaaHpx21
namespace Go.Proofs.Ytghhjkjdeohmiaa.Pure
open Go.RowKit Go.Proofs.YtghhjkjdeohmiaaW.PrintWords Go.Proofs.Ytghhjkjdeohmiaa.Hp
set_option linter.unusedVariables false
set_option linter.unusedSimpArgs false
theorem ne_test (a b : S28) : ((!(a.f0 == b.f0) || !(a.f1 == b.f1)) = true) ↔ a ≠ b := by
  constructor
  · intro h e
    subst e
    simp at h
  · intro h
    by_cases c : a.f0 = b.f0
    · have c2 : ¬ a.f1 = b.f1 := fun e => h (by cases a; cases b; simp_all)
      simp [c, c2]
    · simp [c]
section
variable (l A : List S28) (at_ n : Int) (hl : l.length ≤ 200) (hA : ∀ x ∈ A, x.f1 < n) (hG : Good (A ++ [(⟨at_, n⟩ : S28)])) (hlen : A.length ≤ l.length)
include hl hA hG hlen
omit hA in
theorem rises_end (k i : Nat) (j : Int) (hi : i = A.length) (hk : 600 < k) : sawtoothlaw08_LeastRises.l0 (k + 1) l at_ n true (A ++ [⟨at_, n⟩]) j (i : Int) at_ n = some true := by
  have h1 : (A ++ [(⟨at_, n⟩ : S28)]).length = A.length + 1 := by simp
  simp only [sawtoothlaw08_LeastRises.l0]
  rw [wrap64_id (n := (i : Int) + 1) (by omega), if_neg (by omega), wrap64_id (n := (l.length : Int) + 1) (by omega)]
  simp only [if_true, beq_self_eq_true, Bool.and_self]
  rw [check_tells _ (by omega) k (by omega), decide_eq_true hG]
  simp only [Option.bind_some, if_true]
  rw [if_pos (by omega)]
theorem rises_l1 (d : Nat) : ∀ (k i j : Nat), j ≤ l.length → l.length - j = d → i < A.length → (A.drop i).Sublist (l.drop j) → 2 * d + 800 < k → sawtoothlaw08_LeastRises.l1 k l at_ n true (A ++ [⟨at_, n⟩]) (j : Int) (i : Int) at_ n = some true := by
  have h1 : (A ++ [(⟨at_, n⟩ : S28)]).length = A.length + 1 := by simp
  induction d with
  | zero =>
    intro k i j hj hd hi hs hk
    exfalso
    have := hs.length_le
    simp only [List.length_drop] at this
    omega
  | succ d ih =>
    intro k i j hj hd hi hs hk
    obtain ⟨k, rfl⟩ : ∃ m, k = m + 1 := ⟨k - 1, by omega⟩
    have hjl : j < l.length := by omega
    have hwj : wrap64 ((j : Int) + 1) = ((j + 1 : Nat) : Int) := by rw [wrap64_id (by omega)]; omega
    have hwi : wrap64 ((i : Int) + 1) = ((i + 1 : Nat) : Int) := by rw [wrap64_id (by omega)]; omega
    have hrd : rd_T28 (A ++ [(⟨at_, n⟩ : S28)]) (i : Int) = rd_T28 A i := by
      unfold rd_T28
      simp [List.getD_eq_getElem?_getD, List.getElem?_append_left hi]
    have hmem : rd_T28 A i ∈ A := by
      have h := rd_drop A i hi
      exact List.mem_of_mem_drop (i := i) (by rw [h]; exact List.mem_cons_self)
    rw [rd_drop A i hi, rd_drop l j hjl] at hs
    simp only [sawtoothlaw08_LeastRises.l1]
    rw [if_pos (by omega), if_pos (by omega), if_pos (by omega), if_pos (by omega), hrd]
    by_cases c : rd_T28 l j = rd_T28 A i
    · rw [if_neg (fun e => (ne_test _ _).1 e c), if_neg (by omega), if_neg (by have := hA _ hmem; omega), hwj, hwi]
      rw [c] at hs
      have hs2 := List.cons_sublist_cons.1 hs
      obtain ⟨k, rfl⟩ : ∃ m, k = m + 1 := ⟨k - 1, by omega⟩
      by_cases c2 : i + 1 = A.length
      · exact rises_end l A at_ n hl hG hlen k (i + 1) _ c2 (by omega)
      · simp only [sawtoothlaw08_LeastRises.l0]
        rw [wrap64_id (n := ((i + 1 : Nat) : Int) + 1) (by omega), if_pos (by omega)]
        exact ih k (i + 1) (j + 1) (by omega) (by omega) (by omega) hs2 (by omega)
    · rw [if_pos ((ne_test _ _).2 c), hwj]
      have hs2 : (A.drop i).Sublist (l.drop (j + 1)) := by
        rw [rd_drop A i hi]
        rcases List.sublist_cons_iff.1 hs with h | ⟨r, e, _⟩
        · exact h
        · exact absurd (List.cons.inj e).1.symm c
      exact ih k i (j + 1) (by omega) (by omega) hi hs2 (by omega)
end
theorem LeastRises (l : List S28) (w at_ n : Int) (hl : ∀ x ∈ l, (Lit.int .i64 x.f0).wf = true ∧ (Lit.int .i64 x.f1).wf = true) (hw : (Lit.int .i64 w).wf = true) (ht : (Lit.int .i64 at_).wf = true) (hn : (Lit.int .i64 n).wf = true) : ∃ k, sawtoothlaw08_LeastRises.f k l w at_ n = some true := by
  have hw' := i64_in hw
  refine ⟨2000, ?_⟩
  unfold sawtoothlaw08_LeastRises.f
  rw [awake_tells 2000 (by omega)]
  simp only [Option.bind_some]
  by_cases h : (l.length : Int) > 100
  · rw [if_pos h]; rfl
  · rw [if_neg h, put_tells l (by omega) w at_ n (by omega) 2000 (by omega)]
    simp only [Option.bind_some]
    have same := same_tells l (by omega) 2000 (by omega)
    by_cases c1 : Good l ∧ T at_ ∧ 0 ≤ w
    · by_cases c2 : Late l at_
      · rw [puts_ok c1.1 c1.2.1 c1.2.2 c2]
        have hG := pl_good (n := n) c1.1 c1.2.1 c2 c1.2.2
        have hA : ∀ x ∈ (l.takeWhile (fun m : S28 => decide (m.f1 < n))).dropWhile (fun m : S28 => decide (m.f0 < at_ - w)), x.f1 < n := fun x hx => by simpa using tw_all _ _ x ((dw_sub _ _).subset hx)
        have hs := (dw_sub (fun m : S28 => decide (m.f0 < at_ - w)) (l.takeWhile (fun m : S28 => decide (m.f1 < n)))).trans (tw_sub (fun m : S28 => decide (m.f1 < n)) l)
        rw [pl_form c1.2.2] at hG ⊢
        generalize (l.takeWhile (fun m : S28 => decide (m.f1 < n))).dropWhile (fun m : S28 => decide (m.f0 < at_ - w)) = A at *
        have h1 : (A ++ [(⟨at_, n⟩ : S28)]).length = A.length + 1 := by simp
        have hlen := hs.length_le
        have hlast : rd_T28 (A ++ [(⟨at_, n⟩ : S28)]) (((A ++ [(⟨at_, n⟩ : S28)]).length : Int) - 1) = ⟨at_, n⟩ := by
          rw [h1]
          unfold rd_T28
          rw [show (((A.length + 1 : Nat) : Int) - 1).toNat = A.length by omega]
          simp [List.getD_eq_getElem?_getD]
        simp only [if_true]
        rw [if_neg (by omega), wrap64_id (n := ((A ++ [(⟨at_, n⟩ : S28)]).length : Int) - 1) (by omega), if_pos (by omega), if_pos (by omega), hlast]
        by_cases c3 : A.length = 0
        · exact rises_end l A at_ n (by omega) hG hlen 1999 0 _ (by omega) (by omega)
        · simp only [sawtoothlaw08_LeastRises.l0]
          rw [show wrap64 ((0 : Int) + 1) = 1 by rw [wrap64_id (by omega)]; rfl, if_pos (by omega)]
          exact rises_l1 l A at_ n (by omega) hA hG hlen l.length 1999 0 0 (Nat.zero_le _) rfl (by omega) (by simpa using hs) (by omega)
      · rw [puts_back c1.1 c1.2.1 c1.2.2 c2, if_neg (by simp), if_pos trivial, same]
        rfl
    · rw [puts_time c1, if_neg (by simp), if_pos trivial, same]
      rfl

end Go.Proofs.Ytghhjkjdeohmiaa.Pure
