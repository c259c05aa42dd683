/- What each function of the reference of flight answers, of numbers of 64 bits. -/
import Derived.Test.YtjanmaddjjhjbaaPureTells
import Derived.Test.YtjanmaddjjhjbaaHpx10
import Derived.Test.YtjanmaddjjhjbaaHpx11
import Derived.Test.YtjanmaddjjhjbaaHpx12
import Derived.Test.YtjanmaddjjhjbaaHpx13
import Derived.Test.YtjanmaddjjhjbaaHpx8
import Derived.OpenShut
namespace Go.Proofs.Ytjanmaddjjhjbaa.Pure
open Go.RowKit Go.Proofs.Ytjanmaddjjhjbaa.Hp Go.Proofs.YtjanmaddjjhjbaaW.PrintWords Go.Proofs.YtjanmaddjjhjbaaW.PrintLast Go.Proofs.YtjanmaddjjhjbaaW.PrintMore

theorem ref_plus (a b : Int) (ha : R a) (hb : R b) : sawtoothref01_Plus.f a b = some (if R (a + b) then (a + b, 0) else (0, 10)) := by
  unfold R at ha hb
  unfold sawtoothref01_Plus.f
  by_cases hr : R (a + b)
  · rw [if_pos hr, wrap64_id hr]
    unfold R at hr
    by_cases h1 : b > 0
    · rw [if_pos h1, wrap64_id (by unfold R; omega), if_neg (by omega), if_neg (by omega)]
    · rw [if_neg h1]
      by_cases h2 : b < 0
      · rw [if_pos h2, wrap64_id (by unfold R; omega), if_neg (by omega)]
      · rw [if_neg h2]
  · rw [if_neg hr]
    unfold R at hr
    by_cases h1 : b > 0
    · rw [if_pos h1, wrap64_id (by unfold R; omega), if_pos (by omega)]
    · rw [if_neg h1, if_pos (by omega : b < 0), wrap64_id (by unfold R; omega), if_pos (by omega)]

theorem rcheck_tells (s t o : Int) (hs : R s) (ht : R t) (ho : R o) : sawtoothref16_Check.f s t o = some (decide (C s t o)) := by
  unfold sawtoothref16_Check.f
  by_cases h1 : s < 0
  · rw [if_pos h1, decide_eq_false (by unfold C; omega)]
  · rw [if_neg h1]
    by_cases h2 : t < 0
    · rw [if_pos h2, decide_eq_false (by unfold C; omega)]
    · rw [if_neg h2]
      by_cases h3 : o < 0
      · rw [if_pos h3, decide_eq_false (by unfold C; omega)]
      · rw [if_neg h3, ref_plus t o ht ho]
        unfold R at hs
        by_cases h4 : R (t + o)
        · rw [if_pos h4]
          simp only [Option.bind_some, if_true]
          by_cases h5 : t + o ≤ s
          · simp only [h5, decide_true]; rw [decide_eq_true (by unfold C; omega)]
          · simp only [h5, decide_false]; rw [decide_eq_false (by unfold C; omega)]
        · rw [if_neg h4]
          unfold R at h4
          simp only [Option.bind_some]
          rw [if_neg (by omega), decide_eq_false (by unfold C; omega)]

theorem rroom_tells (s t o room : Int) (hs : R s) (ht : R t) (ho : R o) (hr : R room) : sawtoothref16_Room.f s t o room = some (roomV s t o room) := by
  unfold sawtoothref16_Room.f roomV
  rw [rcheck_tells s t o hs ht ho]
  simp only [Option.bind_some]
  unfold R at hr
  by_cases h : C s t o
  · rw [if_pos (decide_eq_true h)]
    have h' := h
    unfold C at h'
    by_cases h2 : room ≤ o
    · rw [if_pos h2]
      congr 1
      split <;> omega
    · rw [if_neg h2, if_pos ⟨h, by omega⟩, wrap64_id (by unfold R; omega)]
  · rw [if_neg (by simpa using h), if_neg (fun e => h e.1)]

theorem rsend_tells (k : Nat) (s t o n room : Int) (hs : R s) (ht : R t) (ho : R o) (hn : R n) (hr : R room) : sawtoothref16_Send.f (k + 1) s t o n room = some (sendV s t o n room) := by
  unfold sawtoothref16_Send.f sendV
  rw [rcheck_tells s t o hs ht ho]
  simp only [Option.bind_some, sawtoothref16_Send.j0]
  by_cases h : C s t o
  · rw [if_pos (decide_eq_true h)]
    have h' := h
    unfold C at h'
    by_cases h1 : n < 1
    · rw [if_pos (decide_eq_true h1), if_pos (show ¬ (C s t o ∧ 1 ≤ n) by omega)]
    · rw [if_neg (by simpa using h1), if_neg (show ¬ ¬ (C s t o ∧ 1 ≤ n) from fun e => e ⟨h, by omega⟩), ref_plus s n hs hn]
      unfold R at hn hs ht ho
      by_cases h2 : R (s + n)
      · rw [if_pos h2]
        unfold R at h2
        simp only [Option.bind_some, if_true]
        rw [rroom_tells s t o room hs ht ho hr, if_neg (by omega)]
        simp only [Option.bind_some]
        by_cases h3 : roomV s t o room < n
        · rw [if_pos h3, if_pos h3]
        · rw [if_neg h3, if_neg h3, wrap64_id (by unfold R; omega)]
      · rw [if_neg h2]
        unfold R at h2
        simp only [Option.bind_some]
        rw [if_neg (by omega), if_pos (by omega)]
  · rw [if_neg (by simpa using h), if_pos trivial, if_pos (show ¬ (C s t o ∧ 1 ≤ n) from fun e => h e.1)]

theorem rless_tells (k : Nat) (s t o n told : Int) (hs : R s) (ht : R t) (ho : R o) (hn : R n) (h0 : told = n ∨ told = 0) : sawtoothref16_Less.f (k + 1) s t o n told = some (backV s t o n told) := by
  unfold sawtoothref16_Less.f backV
  rw [rcheck_tells s t o hs ht ho]
  simp only [Option.bind_some, sawtoothref16_Less.j0]
  by_cases h : C s t o
  · rw [if_pos (decide_eq_true h)]
    have h' := h
    unfold C at h'
    unfold R at hn hs
    by_cases h1 : n < 1
    · rw [if_pos (decide_eq_true h1), if_pos (show ¬ (C s t o ∧ 1 ≤ n) by omega)]
    · rw [if_neg (by simpa using h1), if_neg (show ¬ ¬ (C s t o ∧ 1 ≤ n) from fun e => e ⟨h, by omega⟩)]
      by_cases h2 : o < n
      · rw [if_pos h2, if_pos h2]
      · rw [if_neg h2, if_neg h2, wrap64_id (n := t + told) (by unfold R; omega), wrap64_id (n := o - n) (by unfold R; omega)]
  · rw [if_neg (by simpa using h), if_pos trivial, if_pos (show ¬ (C s t o ∧ 1 ≤ n) from fun e => h e.1)]

theorem same_loop (l : List Int) (hl : l.length ≤ 1000) (d : Nat) : ∀ (k j : Nat), j + d = l.length → d < k → sawtoothref16_Same.l0 k l l j = some true := by
  induction d with
  | zero =>
    intro k j hj hk
    obtain ⟨k, rfl⟩ : ∃ q, k = q + 1 := ⟨k - 1, by omega⟩
    simp only [sawtoothref16_Same.l0]
    rw [if_neg (by omega)]
  | succ d ih =>
    intro k j hj hk
    obtain ⟨k, rfl⟩ : ∃ q, k = q + 1 := ⟨k - 1, by omega⟩
    simp only [sawtoothref16_Same.l0]
    rw [if_pos (by omega), if_pos (by omega), wrap64_id (by unfold R; omega)]
    have := ih k (j + 1) (by omega) (by omega)
    rw [Int.natCast_succ] at this
    rw [if_pos (by omega), if_pos trivial]
    exact this
theorem same_tells (l : List Int) (hl : l.length ≤ 1000) (k : Nat) (hk : l.length < k) : sawtoothref16_Same.f k l l = some true := by
  unfold sawtoothref16_Same.f
  rw [if_pos rfl]
  exact same_loop l hl l.length k 0 (by omega) hk

end Go.Proofs.Ytjanmaddjjhjbaa.Pure
