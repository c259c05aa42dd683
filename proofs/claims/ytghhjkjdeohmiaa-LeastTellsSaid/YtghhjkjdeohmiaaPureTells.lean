/- What the functions of the program tell, as plain functions of lists. Plain Lean. -/
import Derived.Test.YtghhjkjdeohmiaaPureList
import Derived.Test.YtghhjkjdeohmiaaHpx10
import Derived.Test.YtghhjkjdeohmiaaHpx15
import Derived.Test.YtghhjkjdeohmiaaHpx2
import Derived.Test.YtghhjkjdeohmiaaHpx3
import Derived.Test.YtghhjkjdeohmiaaHpx5
import Derived.Test.YtghhjkjdeohmiaaHpx6
import Derived.Test.YtghhjkjdeohmiaaHpx8
import Derived.Test.YtghhjkjdeohmiaaHpx9
namespace Go.Proofs.Ytghhjkjdeohmiaa.Pure
open Go.RowKit Go.Proofs.YtghhjkjdeohmiaaW.PrintWords Go.Proofs.Ytghhjkjdeohmiaa.Hp
set_option linter.unusedVariables false
set_option linter.unusedSimpArgs false
theorem wrap64_id {n : Int} (h : -9223372036854775808 ≤ n ∧ n ≤ 9223372036854775807) : wrap64 n = n := by unfold wrap64; omega
theorem u32_in {a : Int} (h : (Lit.int .u32 a).wf = true) : 0 ≤ a ∧ a ≤ 4294967295 := by
  simp [Lit.wf] at h
  have e1 : IntKind.u32.min = 0 := rfl
  have e2 : IntKind.u32.max = 4294967295 := rfl
  omega
theorem i64_in {a : Int} (h : (Lit.int .i64 a).wf = true) : -9223372036854775808 ≤ a ∧ a ≤ 9223372036854775807 := by
  simp [Lit.wf] at h
  have e1 : IntKind.i64.min = -9223372036854775808 := rfl
  have e2 : IntKind.i64.max = 9223372036854775807 := rfl
  omega
theorem rd_drop (l : List S28) (j : Nat) (h : j < l.length) : l.drop j = rd_T28 l j :: l.drop (j + 1) := drop28 l j h
theorem rd_nat (l : List S28) (i : Int) (j : Nat) (hi : i = j) : rd_T28 l i = rd_T28 l (j : Int) := by rw [hi]
theorem is_tells (a : Int) : least_is.f a = some (decide (T a)) := by
  unfold least_is.f
  by_cases h : a ≥ 0
  · rw [if_pos h]
    congr 1
    by_cases h2 : a ≤ 1099511627776
    · rw [decide_eq_true h2, decide_eq_true (show T a from ⟨h, h2⟩)]
    · rw [decide_eq_false h2, decide_eq_false (fun e : T a => h2 e.2)]
  · rw [if_neg h, decide_eq_false (fun e : T a => h e.1)]
theorem ris_tells (a : Int) : sawtoothref05_Check.f a = some (decide (T a)) := is_tells a
/-- The mark ahead of place i. -/
def prev (l : List S28) (i : Nat) : Option S28 := if i = 0 then none else some (rd_T28 l ((i : Int) - 1))
theorem prev_succ (l : List S28) (i : Nat) : prev l (i + 1) = some (rd_T28 l i) := by
  unfold prev
  rw [if_neg (by omega)]
  congr 2
  omega
theorem check_loop (l : List S28) (hl : l.length ≤ 1000000) (d : Nat) : ∀ (k i : Nat), i ≤ l.length → l.length - i = d → d < k → least_Check.l0 k l l (l.length : Int) (i : Int) = some (chk (prev l i) (l.drop i)) := by
  induction d with
  | zero =>
    intro k i h1 hd hk
    obtain ⟨k, rfl⟩ : ∃ m, k = m + 1 := ⟨k - 1, by omega⟩
    obtain rfl : i = l.length := by omega
    simp only [least_Check.l0]
    rw [if_neg (by omega), List.drop_length]
    cases prev l l.length <;> rfl
  | succ d ih =>
    intro k i h1 hd hk
    obtain ⟨k, rfl⟩ : ∃ m, k = m + 1 := ⟨k - 1, by omega⟩
    have hlt : i < l.length := by omega
    have hn := ih k (i + 1) (by omega) (by omega) (by omega)
    rw [prev_succ] at hn
    have hw : wrap64 ((i : Int) + 1) = ((i + 1 : Nat) : Int) := by rw [wrap64_id (by omega)]; omega
    simp only [least_Check.l0]
    rw [if_pos (by omega), if_pos (by omega), if_pos (by omega), is_tells, rd_drop l i hlt, hw, hn]
    simp only [Option.bind_some]
    by_cases hT : T (rd_T28 l i).f0
    · rw [if_pos (decide_eq_true hT)]
      by_cases h0 : i = 0
      · subst h0
        rw [if_neg (by simp)]
        show some (chk _ _) = some (decide _ && chk _ _)
        rw [decide_eq_true hT]
        rfl
      · rw [if_pos (by omega), wrap64_id (n := (i : Int) - 1) (by omega), if_pos (by omega), if_pos (by omega)]
        unfold prev
        rw [if_neg h0]
        simp only [chk]
        rw [decide_eq_true hT]
        simp only [Bool.true_and]
        by_cases c1 : (rd_T28 l i).f0 < (rd_T28 l ((i : Int) - 1)).f0
        · rw [if_pos c1, decide_eq_false (fun e : Rel _ _ => absurd e.1 (by omega))]; rfl
        · rw [if_neg c1]
          by_cases c2 : (rd_T28 l i).f1 ≤ (rd_T28 l ((i : Int) - 1)).f1
          · rw [if_pos c2, decide_eq_false (fun e : Rel _ _ => absurd e.2 (by omega))]; rfl
          · rw [if_neg c2, decide_eq_true (show Rel _ _ from ⟨by omega, by omega⟩)]; rfl
    · rw [if_neg (by simpa using hT)]
      cases prev l i <;> simp [chk, hT]
theorem check_tells (l : List S28) (hl : l.length ≤ 1000000) (k : Nat) (hk : l.length < k) : least_Check.f k l = some (decide (Good l)) := by
  unfold least_Check.f
  have h := check_loop l hl l.length k 0 (Nat.zero_le _) rfl hk
  rw [List.drop_zero, show prev l 0 = none from rfl, chk_eq] at h
  exact h
theorem rcheck_loop (l : List S28) (hl : l.length ≤ 1000000) (d : Nat) : ∀ (k i : Nat), i ≤ l.length → l.length - i = d → d < k → sawtoothref08_Check.l0 k l (i : Int) = some (chk (prev l i) (l.drop i)) := by
  induction d with
  | zero =>
    intro k i h1 hd hk
    obtain ⟨k, rfl⟩ : ∃ m, k = m + 1 := ⟨k - 1, by omega⟩
    obtain rfl : i = l.length := by omega
    simp only [sawtoothref08_Check.l0]
    rw [if_neg (by omega), List.drop_length]
    cases prev l l.length <;> rfl
  | succ d ih =>
    intro k i h1 hd hk
    obtain ⟨k, rfl⟩ : ∃ m, k = m + 1 := ⟨k - 1, by omega⟩
    have hlt : i < l.length := by omega
    have hn := ih k (i + 1) (by omega) (by omega) (by omega)
    rw [prev_succ] at hn
    have hw : wrap64 ((i : Int) + 1) = ((i + 1 : Nat) : Int) := by rw [wrap64_id (by omega)]; omega
    simp only [sawtoothref08_Check.l0]
    rw [if_pos (by omega), if_pos (by omega), ris_tells, rd_drop l i hlt, hw, hn]
    simp only [Option.bind_some]
    by_cases hT : T (rd_T28 l i).f0
    · rw [if_pos (decide_eq_true hT)]
      by_cases h0 : i = 0
      · subst h0
        rw [if_neg (by simp)]
        show some (chk _ _) = some (decide _ && chk _ _)
        rw [decide_eq_true hT]
        rfl
      · rw [if_pos (by omega), wrap64_id (n := (i : Int) - 1) (by omega), if_pos (by omega), if_pos (by omega)]
        unfold prev
        rw [if_neg h0]
        simp only [chk]
        rw [decide_eq_true hT]
        simp only [Bool.true_and]
        by_cases c1 : (rd_T28 l i).f0 < (rd_T28 l ((i : Int) - 1)).f0
        · rw [if_pos c1, decide_eq_false (fun e : Rel _ _ => absurd e.1 (by omega))]; rfl
        · rw [if_neg c1]
          by_cases c2 : (rd_T28 l i).f1 ≤ (rd_T28 l ((i : Int) - 1)).f1
          · rw [if_pos c2, decide_eq_false (fun e : Rel _ _ => absurd e.2 (by omega))]; rfl
          · rw [if_neg c2, decide_eq_true (show Rel _ _ from ⟨by omega, by omega⟩)]; rfl
    · rw [if_neg (by simpa using hT)]
      cases prev l i <;> simp [chk, hT]
theorem rcheck_tells (l : List S28) (hl : l.length ≤ 1000000) (k : Nat) (hk : l.length < k) : sawtoothref08_Check.f k l = some (decide (Good l)) := by
  unfold sawtoothref08_Check.f
  have h := rcheck_loop l hl l.length k 0 (Nat.zero_le _) rfl hk
  rw [List.drop_zero, show prev l 0 = none from rfl, chk_eq] at h
  exact h
/-- The least one, as it is told. -/
def ofV (l : List S28) : Int × Bool := match l with | [] => (0, false) | m :: _ => (m.f1, true)
def ofG (l : List S28) : Int × Bool := if Good l then ofV l else (0, false)
theorem of_tells (l : List S28) (hl : l.length ≤ 1000000) (k : Nat) (hk : l.length < k) : least_Of.f k l = some (ofG l) := by
  unfold least_Of.f ofG
  rw [check_tells l hl k hk]
  simp only [Option.bind_some]
  by_cases h : Good l
  · rw [if_pos (decide_eq_true h), if_pos h]
    cases l with
    | nil => rfl
    | cons m l => rw [if_neg (by simp; try omega), if_pos (by simp; try omega)]; rfl
  · rw [if_neg (by simpa using h), if_neg h]
theorem rof_tells (l : List S28) (hl : l.length ≤ 1000000) (k : Nat) (hk : l.length < k) : sawtoothref08_Of.f k l = some (ofG l) := by
  unfold sawtoothref08_Of.f ofG
  rw [rcheck_tells l hl k hk]
  simp only [Option.bind_some]
  by_cases h : Good l
  · rw [if_pos (decide_eq_true h), if_pos h]
    cases l with
    | nil => rfl
    | cons m l => rw [if_neg (by simp; try omega), if_pos (by simp; try omega)]; rfl
  · rw [if_neg (by simpa using h), if_neg h]

theorem ix_tw (p : S28 → Bool) : ∀ (l : List S28) (i : Int), 0 ≤ i → (ix28 p l i = -1 ∧ l.takeWhile (fun m => !p m) = l) ∨ (ix28 p l i = i + (l.takeWhile (fun m => !p m)).length ∧ (l.takeWhile (fun m => !p m)).length < l.length)
  | [], i, _ => .inl ⟨rfl, rfl⟩
  | m :: l, i, hi => by
    unfold ix28
    by_cases h : p m = true
    · rw [if_pos h]
      right
      simp [List.takeWhile_cons, h]
    · rw [if_neg h, List.takeWhile_cons, if_pos (by simpa using h)]
      rcases ix_tw p l (i + 1) (by omega) with ⟨h1, h2⟩ | ⟨h1, h2⟩
      · exact .inl ⟨h1, by rw [h2]⟩
      · right; rw [h1]; simp only [List.length_cons]; exact ⟨by omega, by omega⟩
theorem take_tw (p : S28 → Bool) (l : List S28) : l.take (l.takeWhile p).length = l.takeWhile p := by
  have h := List.takeWhile_append_dropWhile (p := p) (l := l)
  have h2 : (l.takeWhile p ++ l.dropWhile p).take (l.takeWhile p).length = l.takeWhile p := List.take_left
  rw [h] at h2
  exact h2
theorem drop_tw (p : S28 → Bool) (l : List S28) : l.drop (l.takeWhile p).length = l.dropWhile p := by
  have h := List.takeWhile_append_dropWhile (p := p) (l := l)
  have h2 : (l.takeWhile p ++ l.dropWhile p).drop (l.takeWhile p).length = l.dropWhile p := List.drop_left
  rw [h] at h2
  exact h2
theorem not_ge (a b : Int) : (!decide (a ≥ b)) = decide (a < b) := by
  by_cases h : a < b
  · rw [decide_eq_true h, decide_eq_false (by omega)]; rfl
  · rw [decide_eq_false h, decide_eq_true (by omega)]; rfl
theorem put_eq (l : List S28) (w at_ n : Int) : least_Put.put l w at_ n = l.takeWhile (fun m : S28 => decide (m.f1 < n)) ++ [(⟨at_, n⟩ : S28)] := by
  unfold least_Put.put
  have h := ix_tw (fun m => decide (m.f1 ≥ n)) l 0 (Int.le_refl _)
  simp only [not_ge] at h
  rcases h with ⟨h1, h2⟩ | ⟨h1, h2⟩
  · rw [if_pos (by omega), h2]
  · rw [if_neg (by omega), h1, show (0 + ((l.takeWhile fun m : S28 => decide (m.f1 < n)).length : Int)).toNat = (l.takeWhile fun m : S28 => decide (m.f1 < n)).length by omega, take_tw]
theorem go_eq (l : List S28) (w at_ n : Int) (hw : 0 ≤ w) (hw2 : w ≤ 9223372036854775807) (hT : T at_) : least_Put.go l w at_ n = some (pl l w at_ n, 0) := by
  unfold least_Put.go pl
  unfold T at hT
  rw [put_eq, wrap64_id (n := at_ - w) (by omega)]
  have h := ix_tw (fun m => decide (m.f0 ≥ at_ - w)) (l.takeWhile (fun m : S28 => decide (m.f1 < n)) ++ [(⟨at_, n⟩ : S28)]) 0 (Int.le_refl _)
  simp only [not_ge] at h
  rcases h with ⟨h1, h2⟩ | ⟨h1, h2⟩
  · exfalso
    have h3 := tw_all (fun m : S28 => decide (m.f0 < at_ - w)) _ (⟨at_, n⟩ : S28) (by rw [h2]; simp)
    simp at h3
    omega
  · rw [if_pos (by omega), h1]
    rw [show ∀ q : Nat, (0 + (q : Int)).toNat = q by intro q; omega, drop_tw]
theorem last_at (l : List S28) (h : 0 < l.length) : lastAt l = some (rd_T28 l ((l.length : Int) - 1)).f0 := by
  unfold lastAt rd_T28
  rw [List.getLast?_eq_getElem?, show ((l.length : Int) - 1).toNat = l.length - 1 by omega, List.getD_eq_getElem?_getD]
  rw [List.getElem?_eq_getElem (by omega)]
  rfl
theorem put_tells (l : List S28) (hl : l.length ≤ 1000000) (w at_ n : Int) (hw : w ≤ 9223372036854775807) (k : Nat) (hk : l.length < k) : least_Put.f k l w at_ n = some (puts l w at_ n) := by
  unfold least_Put.f puts
  rw [if_pos hl, check_tells l hl k hk]
  simp only [Option.bind_some, is_tells]
  by_cases hG : Good l
  · rw [if_pos (decide_eq_true hG)]
    by_cases hT : T at_
    · rw [if_pos (decide_eq_true hT)]
      by_cases h0 : w < 0
      · rw [if_pos h0, if_neg (by omega)]
      · rw [if_neg h0, go_eq l w at_ n (by omega) hw hT]
        have hA : Good l ∧ T at_ ∧ 0 ≤ w := ⟨hG, hT, by omega⟩
        by_cases hp : 0 < l.length
        · rw [if_pos hp, if_pos hA]
          by_cases hb : at_ < (rd_T28 l ((l.length : Int) - 1)).f0
          · rw [if_pos hb, if_neg (fun e => absurd (e _ (last_at l hp)) (by omega))]
          · rw [if_neg hb, if_pos (show Late l at_ from fun a ha => by rw [last_at l hp] at ha; cases ha; omega)]
        · rw [if_neg hp, if_pos hA, if_pos (show Late l at_ from fun a ha => by
            obtain rfl : l = [] := List.length_eq_zero_iff.1 (by omega)
            cases ha)]
    · rw [if_neg (by simpa using hT), if_neg (fun e => hT e.2.1)]
  · rw [if_neg (by simpa using hG), if_neg (fun e => hG e.1)]
theorem awake_tells (k : Nat) (hk : 24 ≤ k) : sawtoothlaw08_awake.f k = some true := at_rounds (fun k => sawtoothlaw08_awake.mono k) hk sawtoothlaw08_awake.tells

end Go.Proofs.Ytghhjkjdeohmiaa.Pure
