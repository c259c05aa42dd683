/- RoundCounts over numbers alone: how often rounds are over is told step by step, is the ID of the round, and no more than there are numbers. -/
import Derived.Test.YtjhncpbnfkhdjaaPureCommon
import Derived.Test.YtjhncpbnfkhdjaaHpx3
import Derived.Test.YtjhncpbnfkhdjaaHpx7
import Derived.OpenShut
namespace Go.Proofs.Ytjhncpbnfkhdjaa.Pure
open Go.RowKit Go.Proofs.Ytjhncpbnfkhdjaa.Hp Go.Proofs.YtjhncpbnfkhdjaaW.PrintWords Go.Proofs.YtjhncpbnfkhdjaaW.PrintLast Go.Proofs.YtjhncpbnfkhdjaaW.PrintMore

/-- Is a round over? -/
def ok (e t s : Int) : Bool := decide (0 ≤ t ∧ t ≤ s ∧ e ≤ t)

theorem ack_any (i e t s : Int) (hi : 0 ≤ i) (hm : i < 9223372036854775807) (he : 0 ≤ e) :
    ∃ c : Int, round_Ack.f i e t s = some (if ok e t s then (i + 1, s, true, 0) else (i, e, false, c)) := by
  unfold round_Ack.f ok
  rw [if_neg (by omega), if_neg (by omega)]
  by_cases h1 : t < 0
  · exact ⟨201, by rw [if_pos h1, decide_eq_false (by omega)]; rfl⟩
  · rw [if_neg h1]
    by_cases h2 : s < t
    · exact ⟨201, by rw [if_pos h2, decide_eq_false (by omega)]; rfl⟩
    · rw [if_neg h2]
      by_cases h3 : t < e
      · exact ⟨0, by rw [if_pos h3, decide_eq_false (by omega)]; rfl⟩
      · exact ⟨0, by rw [if_neg h3, if_neg (by omega), decide_eq_true (by omega), wrap64_id (by omega) (by omega)]; rfl⟩

/-- The round behind j numbers: its ID and its end. -/
def St (l m : List Int) : Nat → Int × Int
  | 0 => (0, 0)
  | j + 1 => if ok (St l m j).2 (rd l j) (rd m j) then ((St l m j).1 + 1, rd m j) else St l m j

theorem St_bounds (l m : List Int) (j : Nat) : 0 ≤ (St l m j).1 ∧ (St l m j).1 ≤ j ∧ 0 ≤ (St l m j).2 := by
  induction j with
  | zero => simp [St]
  | succ j ih =>
    unfold St
    by_cases h : ok (St l m j).2 (rd l j) (rd m j) = true
    · rw [if_pos h]
      have h' := of_decide_eq_true h
      refine ⟨?_, ?_, ?_⟩ <;> simp only <;> omega
    · rw [if_neg h]; omega

theorem rd_take (l : List Int) (c j : Nat) (h : j < c) : rd (l.take c) j = rd l j := by
  unfold rd
  rw [List.getD_eq_getElem?_getD, List.getD_eq_getElem?_getD, List.getElem?_take_of_lt (by simpa using h)]

theorem St_take (l m : List Int) (c j : Nat) (h : j ≤ c) : St (l.take c) m j = St l m j := by
  induction j with
  | zero => rfl
  | succ j ih => simp only [St]; rw [ih (by omega), rd_take l c j (by omega)]

theorem count_loop (l m : List Int) (hl : l.length ≤ 1000) (d : Nat) :
    ∀ (k j : Nat), j ≤ m.length → j + d = l.length → d < k →
      round_Count.l0 k m (St l m j).1 l l.length j (St l m j).1 (St l m j).2 = some (St l m (min l.length m.length)).1 := by
  induction d with
  | zero =>
    intro k j hj hd hk
    obtain ⟨k, rfl⟩ : ∃ q, k = q + 1 := ⟨k - 1, by omega⟩
    simp only [round_Count.l0]
    rw [if_neg (by omega), Nat.min_eq_left (by omega), show l.length = j from by omega]
  | succ d ih =>
    intro k j hj hd hk
    obtain ⟨k, rfl⟩ : ∃ q, k = q + 1 := ⟨k - 1, by omega⟩
    obtain ⟨b0, b1, b2⟩ := St_bounds l m j
    simp only [round_Count.l0]
    rw [if_pos (by omega), if_pos (by omega), if_pos (by omega)]
    by_cases hm : (m.length : Int) ≤ j
    · rw [if_pos hm, Nat.min_eq_right (by omega), show m.length = j from by omega]
    · rw [if_neg hm, if_pos (by omega)]
      obtain ⟨c, hc⟩ := ack_any (St l m j).1 (St l m j).2 (rd l j) (rd m j) b0 (by omega) b2
      have hs := ih k (j + 1) (by omega) (by omega) (by omega)
      rw [hc]
      rw [wrap64_id (n := (j : Int) + 1) (by omega) (by omega), wrap64_id (n := (St l m j).1 + 1) (by omega) (by omega)]
      have ht : St l m (j + 1) = if ok (St l m j).2 (rd l j) (rd m j) then ((St l m j).1 + 1, rd m j) else St l m j := rfl
      rw [ht, Int.natCast_succ] at hs
      by_cases h : ok (St l m j).2 (rd l j) (rd m j) = true
      · rw [if_pos h] at hs
        rw [if_pos h]
        simp only [Option.bind_some]
        rw [if_pos (by simp [show ¬ (St l m j).1 + 1 = (St l m j).1 from by omega])]
        exact hs
      · rw [if_neg h] at hs
        rw [if_neg h]
        simp only [Option.bind_some]
        rw [if_neg (by simp)]
        exact hs

theorem count_tells (l m : List Int) (hl : l.length ≤ 1000) (k : Nat) (hk : l.length < k) : round_Count.f k l m = some (St l m (min l.length m.length)).1 := by
  unfold round_Count.f
  rw [begin_tells]
  simp only [Option.bind_some]
  exact count_loop l m hl l.length k 0 (by omega) (by omega) hk

theorem counts_loop (l m : List Int) (hl : l.length ≤ 1000) (d : Nat) :
    ∀ (k j : Nat), j ≤ l.length → j ≤ m.length → j + d = l.length → 2 * d + l.length + 2 < k →
      sawtoothlaw09_RoundCounts.l0 k l m true (St l m j).1 j (St l m j).1 (St l m j).2 = some true := by
  have fin : ∀ (k j : Nat), j ≤ l.length → j ≤ m.length → j = min l.length m.length → l.length + 1 < k →
      sawtoothlaw09_RoundCounts.j2 k l m true (St l m j).1 j false (St l m j).1 (St l m j).2 = some true := by
    intro k j h1 h2 h3 hk
    obtain ⟨k, rfl⟩ : ∃ q, k = q + 1 := ⟨k - 1, by omega⟩
    obtain ⟨b0, b1, b2⟩ := St_bounds l m j
    simp only [sawtoothlaw09_RoundCounts.j2]
    rw [if_neg (by simp), if_pos trivial, count_tells l m hl k (by omega), ← h3]
    simp only [Option.bind_some, if_true]
    by_cases h : (m.length : Int) < l.length
    · rw [if_pos h, decide_eq_true (by omega)]
    · rw [if_neg h, decide_eq_true (by omega)]
  induction d with
  | zero =>
    intro k j h1 h2 hd hk
    obtain ⟨k, rfl⟩ : ∃ q, k = q + 1 := ⟨k - 1, by omega⟩
    simp only [sawtoothlaw09_RoundCounts.l0]
    rw [if_neg (by omega)]
    exact fin k j h1 h2 (by omega) (by omega)
  | succ d ih =>
    intro k j h1 h2 hd hk
    obtain ⟨k, rfl⟩ : ∃ q, k = q + 2 := ⟨k - 2, by omega⟩
    obtain ⟨b0, b1, b2⟩ := St_bounds l m j
    simp only [sawtoothlaw09_RoundCounts.l0]
    rw [if_pos (by omega)]
    by_cases hm : (j : Int) < m.length
    · rw [decide_eq_true hm]
      simp only [sawtoothlaw09_RoundCounts.j2]
      rw [if_pos trivial, if_pos (by omega), if_pos (by omega), if_pos hm]
      obtain ⟨c, hc⟩ := ack_any (St l m j).1 (St l m j).2 (rd l j) (rd m j) b0 (by omega) b2
      have hs := ih k (j + 1) (by omega) (by omega) (by omega) (by omega)
      rw [hc]
      rw [wrap64_id (n := (j : Int) + 1) (by omega) (by omega), wrap64_id (n := (St l m j).1 + 1) (by omega) (by omega)]
      rw [show ((j : Int) + 1).toNat = j + 1 from by omega, count_tells (l.take (j + 1)) m (by simp; omega) k (by simp; omega)]
      rw [show min (l.take (j + 1)).length m.length = j + 1 from by simp; omega, St_take l m (j + 1) (j + 1) (by omega)]
      have ht : St l m (j + 1) = if ok (St l m j).2 (rd l j) (rd m j) then ((St l m j).1 + 1, rd m j) else St l m j := rfl
      rw [ht, Int.natCast_succ] at hs
      rw [ht]
      by_cases h : ok (St l m j).2 (rd l j) (rd m j) = true
      · rw [if_pos h] at hs
        simp only [if_pos h, Option.bind_some, if_true]
        rw [if_pos (by omega), if_pos (by omega)]
        exact hs
      · rw [if_neg h] at hs
        simp only [if_neg h, Option.bind_some, if_true]
        rw [if_neg (by simp), if_pos (by omega), if_pos (by omega)]
        exact hs
    · rw [decide_eq_false hm]
      exact fin (k + 1) j h1 h2 (by omega) (by omega)

theorem RoundCounts : sawtoothlaw09_RoundCounts.Pure := by
  intro l m _ _ _ _ _ _
  refine ⟨3 * l.length + 10, ?_⟩
  unfold sawtoothlaw09_RoundCounts.f
  rw [awake_tells _ (by omega)]
  simp only [Option.bind_some]
  obtain ⟨k, hk⟩ : ∃ k, 3 * l.length + 10 = k + 1 := ⟨3 * l.length + 9, rfl⟩
  rw [hk]
  by_cases h : (l.length : Int) > 1000
  · rw [if_pos h]
    simp only [sawtoothlaw09_RoundCounts.j0]
    rw [if_pos trivial]
  · rw [if_neg h]
    simp only [sawtoothlaw09_RoundCounts.j0]
    by_cases h2 : (m.length : Int) > 1000
    · rw [if_pos (decide_eq_true h2)]
    · rw [if_neg (by simp; omega), begin_tells]
      simp only [Option.bind_some]
      exact counts_loop l m (by omega) l.length k 0 (by omega) (by omega) (by omega) (by omega)

end Go.Proofs.Ytjhncpbnfkhdjaa.Pure
