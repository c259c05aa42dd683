/- The plain law LeastTells. -/
import Derived.Test.YtghhjkjdeohmiaaPureSame
import Derived.Test.YtghhjkjdeohmiaaHpx17
namespace Go.Proofs.Ytghhjkjdeohmiaa.Pure
open Go.RowKit Go.Proofs.YtghhjkjdeohmiaaW.PrintWords Go.Proofs.Ytghhjkjdeohmiaa.Hp
set_option linter.unusedVariables false
set_option linter.unusedSimpArgs false
def subV (a w : Int) : Int := if a - w < -9223372036854775808 then -9223372036854775808 else a - w
theorem sub_tells (a w : Int) (ha : -9223372036854775808 ≤ a ∧ a ≤ 9223372036854775807) (hw : 0 ≤ w ∧ w ≤ 9223372036854775807) (k : Nat) : sawtoothref01_Sub.f (k + 1) a w = some (subV a w) := by
  unfold sawtoothref01_Sub.f sawtoothref01_minus.f subV
  by_cases c : w > 0
  · rw [if_pos c, wrap64_id (n := -9223372036854775808 + w) (by omega)]
    by_cases c2 : a < -9223372036854775808 + w
    · rw [if_pos c2, if_pos (by omega)]
      simp only [Option.bind_some]
      rw [if_neg (by simp), decide_eq_true (by omega)]
      simp only [sawtoothref01_Sub.j0, if_true]
    · rw [if_neg c2, if_neg (by omega), if_neg (by omega), wrap64_id (n := a - w) (by omega)]
      simp only [Option.bind_some, if_true, sawtoothref01_Sub.j0, Bool.false_eq_true, if_false]
  · rw [if_neg c, if_neg (by omega), if_neg (by omega), wrap64_id (n := a - w) (by omega)]
    simp only [Option.bind_some, if_true, sawtoothref01_Sub.j0, Bool.false_eq_true, if_false]
theorem dw_all (c : Int) : ∀ (q : List S28), (∀ x ∈ q, c ≤ x.f0) → q.dropWhile (fun m : S28 => decide (m.f0 < c)) = q
  | [], _ => rfl
  | m :: q, h => by
    have := h m List.mem_cons_self
    rw [List.dropWhile_cons, if_neg (by simp only [decide_eq_true_eq]; omega)]
theorem filter_eq (n c : Int) : ∀ (l : List S28), Good l → l.filter (fun m : S28 => decide (m.f1 < n ∧ c ≤ m.f0)) = (l.takeWhile (fun m : S28 => decide (m.f1 < n))).dropWhile (fun m : S28 => decide (m.f0 < c))
  | [], _ => rfl
  | m :: l, h => by
    have hp := List.pairwise_cons.1 h.2
    have hl : Good l := ⟨fun x hx => h.1 x (List.mem_cons_of_mem _ hx), hp.2⟩
    rw [List.takeWhile_cons]
    by_cases c1 : m.f1 < n
    · rw [if_pos (decide_eq_true c1)]
      by_cases c2 : c ≤ m.f0
      · rw [List.filter_cons, if_pos (by simp only [decide_eq_true_eq]; exact ⟨c1, c2⟩), filter_eq n c l hl, dw_all c (m :: _), dw_all c]
        · intro x hx
          have := (hp.1 x ((tw_sub _ _).subset hx)).1
          omega
        · intro x hx
          rcases List.mem_cons.1 hx with rfl | hx
          · exact c2
          · have := (hp.1 x ((tw_sub _ _).subset hx)).1
            omega
      · rw [List.filter_cons, if_neg (by simp only [decide_eq_true_eq]; omega), filter_eq n c l hl, List.dropWhile_cons, if_pos (decide_eq_true (by omega))]
    · rw [if_neg (by simpa using c1)]
      refine List.filter_eq_nil_iff.2 (fun x hx => ?_)
      simp only [decide_eq_true_eq]
      rcases List.mem_cons.1 hx with rfl | hx
      · omega
      · have := (hp.1 x hx).2
        omega
theorem rput_loop (l : List S28) (hl : l.length ≤ 1000000) (w at_ n : Int) (hw : 0 ≤ w ∧ w ≤ 9223372036854775807) (hT : T at_) (d : Nat) : ∀ (k i : Nat) (out : List S28), i ≤ l.length → l.length - i = d → d + 2 < k → out.length ≤ i →
    sawtoothref08_Put.l0 k l w at_ n out (i : Int) = some (out ++ (l.drop i).filter (fun m : S28 => decide (m.f1 < n ∧ at_ - w ≤ m.f0)) ++ [(⟨at_, n⟩ : S28)], 0) := by
  unfold T at hT
  induction d with
  | zero =>
    intro k i out h1 hd hk ho
    obtain ⟨k, rfl⟩ : ∃ m, k = m + 1 := ⟨k - 1, by omega⟩
    obtain rfl : i = l.length := by omega
    simp only [sawtoothref08_Put.l0]
    rw [if_neg (by omega), if_pos (by omega), List.drop_length]
    simp
  | succ d ih =>
    intro k i out h1 hd hk ho
    obtain ⟨k, rfl⟩ : ∃ m, k = m + 2 := ⟨k - 2, by omega⟩
    have hlt : i < l.length := by omega
    have hwr : wrap64 ((i : Int) + 1) = ((i + 1 : Nat) : Int) := by rw [wrap64_id (by omega)]; omega
    have e : subV at_ w = at_ - w := by unfold subV; rw [if_neg (by omega)]
    rw [rd_drop l i hlt]
    unfold sawtoothref08_Put.l0
    rw [if_pos (by omega), if_pos (by omega), sub_tells at_ w (by omega) hw k, e, hwr]
    simp only [Option.bind_some]
    by_cases c1 : (rd_T28 l i).f1 < n
    · rw [if_pos c1]
      by_cases c2 : (rd_T28 l i).f0 ≥ at_ - w
      · rw [if_pos c2, if_pos (by omega), ih (k + 1) (i + 1) _ (by omega) (by omega) (by omega) (by simp; omega), List.filter_cons, if_pos (by simp only [decide_eq_true_eq]; exact ⟨c1, by omega⟩)]
        simp
      · rw [if_neg c2, ih (k + 1) (i + 1) _ (by omega) (by omega) (by omega) (by omega), List.filter_cons, if_neg (by simp only [decide_eq_true_eq]; omega)]
    · rw [if_neg c1, ih (k + 1) (i + 1) _ (by omega) (by omega) (by omega) (by omega), List.filter_cons, if_neg (by simp only [decide_eq_true_eq]; omega)]
theorem rput_tells (l : List S28) (hl : l.length ≤ 1000000) (w at_ n : Int) (hw : w ≤ 9223372036854775807) (k : Nat) (hk : l.length + 10 < k) : sawtoothref08_Put.f k l w at_ n = some (puts l w at_ n) := by
  unfold sawtoothref08_Put.f
  rw [rcheck_tells l hl k (by omega), ris_tells]
  simp only [Option.bind_some]
  obtain ⟨k, rfl⟩ : ∃ m, k = m + 2 := ⟨k - 2, by omega⟩
  have bad : ¬ (Good l ∧ T at_ ∧ 0 ≤ w) → sawtoothref08_Put.j0 (k + 2) l w at_ n true = some (puts l w at_ n) := fun h => by
    rw [puts_time h]
    simp only [sawtoothref08_Put.j0, if_true]
  by_cases hG : Good l
  · rw [if_pos (decide_eq_true hG)]
    by_cases hT : T at_
    · rw [if_pos (decide_eq_true hT)]
      by_cases h0 : w < 0
      · rw [decide_eq_true h0]
        exact bad (by omega)
      · rw [decide_eq_false h0]
        have fin : Late l at_ → sawtoothref08_Put.l0 k l w at_ n [] 0 = some (puts l w at_ n) := fun hla => by
          have h := rput_loop l hl w at_ n ⟨by omega, hw⟩ hT l.length k 0 [] (Nat.zero_le _) rfl (by omega) (Nat.zero_le _)
          rw [List.drop_zero, List.nil_append, filter_eq n _ l hG] at h
          rw [puts_ok hG hT (by omega) hla, pl_form (by omega)]
          exact h
        simp only [sawtoothref08_Put.j0, Bool.false_eq_true, if_false]
        by_cases hp : 0 < l.length
        · rw [if_pos (by omega), wrap64_id (n := (l.length : Int) - 1) (by omega), if_pos (by omega), if_pos (by omega)]
          by_cases hb : at_ < (rd_T28 l ((l.length : Int) - 1)).f0
          · rw [decide_eq_true hb, puts_back hG hT (by omega) (fun e => absurd (e _ (last_at l hp)) (by omega))]
            simp only [sawtoothref08_Put.j1, if_true]
          · rw [decide_eq_false hb]
            simp only [sawtoothref08_Put.j1, Bool.false_eq_true, if_false]
            exact fin (fun a ha => by rw [last_at l hp] at ha; cases ha; omega)
        · rw [if_neg (by omega)]
          simp only [sawtoothref08_Put.j1, Bool.false_eq_true, if_false]
          exact fin (fun a ha => by
            obtain rfl : l = [] := List.length_eq_zero_iff.1 (by omega)
            cases ha)
    · rw [if_neg (by simpa using hT)]
      exact bad (fun e => hT e.2.1)
  · rw [if_neg (by simpa using hG)]
    exact bad (fun e => hG e.1)
theorem rsince_loop (w at_ : Int) (hw : 0 ≤ w ∧ w ≤ 9223372036854775807) (ha : -9223372036854775808 ≤ at_ ∧ at_ ≤ 9223372036854775807) (l : List S28) (hT : ∀ m ∈ l, T m.f0) (hl : l.length ≤ 1000000) (d : Nat) : ∀ (k i : Nat), i ≤ l.length → l.length - i = d → d + 2 < k →
    sawtoothref08_Since.l0 k l w at_ (i : Int) = some (sinceR w at_ (l.drop i)) := by
  induction d with
  | zero =>
    intro k i h1 hd hk
    obtain ⟨k, rfl⟩ : ∃ m, k = m + 1 := ⟨k - 1, by omega⟩
    obtain rfl : i = l.length := by omega
    simp only [sawtoothref08_Since.l0]
    rw [if_neg (by omega), List.drop_length]
    rfl
  | succ d ih =>
    intro k i h1 hd hk
    obtain ⟨k, rfl⟩ : ∃ m, k = m + 2 := ⟨k - 2, by omega⟩
    have hlt : i < l.length := by omega
    have hwr : wrap64 ((i : Int) + 1) = ((i + 1 : Nat) : Int) := by rw [wrap64_id (by omega)]; omega
    have hm : T (rd_T28 l i).f0 := hT _ (by
      have h := rd_drop l i hlt
      exact List.mem_of_mem_drop (i := i) (by rw [h]; exact List.mem_cons_self))
    unfold T at hm
    rw [rd_drop l i hlt]
    unfold sawtoothref08_Since.l0
    rw [if_pos (by omega), if_pos (by omega), sub_tells at_ w ha hw k, hwr, ih (k + 1) (i + 1) (by omega) (by omega) (by omega)]
    simp only [Option.bind_some, sinceR]
    have hs : (rd_T28 l i).f0 ≥ subV at_ w ↔ at_ - (rd_T28 l i).f0 ≤ w := by unfold subV; split <;> omega
    by_cases c1 : (rd_T28 l i).f0 ≤ at_
    · rw [if_pos c1, if_pos c1]
      by_cases c2 : at_ - (rd_T28 l i).f0 ≤ w
      · rw [if_pos (hs.2 c2), if_pos c2]
      · rw [if_neg (fun e => c2 (hs.1 e)), if_neg c2]
    · rw [if_neg c1, if_neg c1]
      split <;> rfl
theorem rsince_tells (w at_ : Int) (hw : w ≤ 9223372036854775807) (ha : -9223372036854775808 ≤ at_ ∧ at_ ≤ 9223372036854775807) (l : List S28) (hl : l.length ≤ 1000000) (k : Nat) (hk : l.length + 10 < k) : sawtoothref08_Since.f k l w at_ = some (if Good l ∧ 0 ≤ w then sinceR w at_ l else (0, false)) := by
  unfold sawtoothref08_Since.f
  rw [rcheck_tells l hl k (by omega)]
  simp only [Option.bind_some]
  obtain ⟨k, rfl⟩ : ∃ m, k = m + 1 := ⟨k - 1, by omega⟩
  by_cases hG : Good l
  · rw [if_pos (decide_eq_true hG)]
    simp only [sawtoothref08_Since.j0]
    by_cases h0 : w < 0
    · rw [if_pos (decide_eq_true h0), if_neg (by omega)]
    · rw [if_neg (by simpa using h0), if_pos ⟨hG, by omega⟩]
      have h := rsince_loop w at_ ⟨by omega, hw⟩ ha l hG.1 hl l.length k 0 (Nat.zero_le _) rfl (by omega)
      rw [List.drop_zero] at h
      exact h
  · rw [if_neg (by simpa using hG), if_neg (fun e => hG e.1)]
    simp only [sawtoothref08_Since.j0, if_true]
theorem puts_length (l : List S28) (w at_ n : Int) : (puts l w at_ n).1.length ≤ l.length + 1 := by
  unfold puts
  split
  · rename_i h
    split
    · exact pl_length h.2.2
    · exact Nat.le_succ _
  · exact Nat.le_succ _
theorem tells_loop (w : Int) (hw : -9223372036854775808 ≤ w ∧ w ≤ 9223372036854775807) (p : List S28) (hp : p.length ≤ 100) (a : Int) (ha : -9223372036854775808 ≤ a ∧ a ≤ 9223372036854775807) (d : Nat) : ∀ (k i : Nat) (l : List S28), i ≤ p.length → p.length - i = d → d + 700 < k → l.length ≤ 100 + i →
    sawtoothlaw08_LeastTells.l0 k w p a true l l (i : Int) = some true := by
  induction d with
  | zero =>
    intro k i l h1 hd hk hl
    obtain ⟨k, rfl⟩ : ∃ m, k = m + 1 := ⟨k - 1, by omega⟩
    simp only [sawtoothlaw08_LeastTells.l0]
    rw [if_neg (by omega), of_tells l (by omega) k (by omega), rof_tells l (by omega) k (by omega), since_tells w a ha.2 l (by omega) k (by omega), rsince_tells w a hw.2 ha l (by omega) k (by omega), check_tells l (by omega) k (by omega), rcheck_tells l (by omega) k (by omega)]
    simp only [Option.bind_some, if_true, beq_self_eq_true]
  | succ d ih =>
    intro k i l h1 hd hk hl
    obtain ⟨k, rfl⟩ : ∃ m, k = m + 1 := ⟨k - 1, by omega⟩
    have hwr : wrap64 ((i : Int) + 1) = ((i + 1 : Nat) : Int) := by rw [wrap64_id (by omega)]; omega
    simp only [sawtoothlaw08_LeastTells.l0]
    rw [if_pos (by omega), if_pos (by omega), put_tells l (by omega) w _ _ hw.2 k (by omega), rput_tells l (by omega) w _ _ hw.2 k (by omega), hwr]
    simp only [Option.bind_some, if_true]
    have hlen := puts_length l w (rd_T28 p i).f0 (rd_T28 p i).f1
    rw [same_tells _ (by omega) k (by omega)]
    simp only [Option.bind_some, if_true]
    exact ih k (i + 1) _ (by omega) (by omega) (by omega) (by omega)
theorem LeastTells (l : List S28) (w : Int) (p : List S28) (a : Int) (hl : ∀ x ∈ l, (Lit.int .i64 x.f0).wf = true ∧ (Lit.int .i64 x.f1).wf = true) (hw : (Lit.int .i64 w).wf = true) (hp : ∀ x ∈ p, (Lit.int .i64 x.f0).wf = true ∧ (Lit.int .i64 x.f1).wf = true) (ha : (Lit.int .i64 a).wf = true) : ∃ k, sawtoothlaw08_LeastTells.f k l w p a = some true := by
  refine ⟨2000, ?_⟩
  unfold sawtoothlaw08_LeastTells.f
  rw [awake_tells 2000 (by omega)]
  simp only [Option.bind_some]
  have up : sawtoothlaw08_LeastTells.j0 2000 l w p a true true = some true := by simp only [sawtoothlaw08_LeastTells.j0, if_true]
  by_cases h1 : (l.length : Int) > 100
  · rw [if_pos h1]; exact up
  · rw [if_neg h1]
    by_cases h2 : (p.length : Int) > 100
    · rw [decide_eq_true h2]; exact up
    · rw [decide_eq_false h2]
      simp only [sawtoothlaw08_LeastTells.j0, Bool.false_eq_true, if_false]
      exact tells_loop w (i64_in hw) p (by omega) a (i64_in ha) p.length 1999 0 l (Nat.zero_le _) rfl (by omega) (by omega)

end Go.Proofs.Ytghhjkjdeohmiaa.Pure
