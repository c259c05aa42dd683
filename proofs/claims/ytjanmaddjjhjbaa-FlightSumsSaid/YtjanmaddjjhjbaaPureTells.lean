/- What each function of flight answers, of numbers of 64 bits. -/
import Derived.Test.YtjanmaddjjhjbaaPureMath
import Derived.Test.YtjanmaddjjhjbaaHpx2
import Derived.Test.YtjanmaddjjhjbaaHpx3
import Derived.Test.YtjanmaddjjhjbaaHpx5
import Derived.Test.YtjanmaddjjhjbaaHpx6
import Derived.Test.YtjanmaddjjhjbaaHpx9
import Derived.OpenShut
namespace Go.Proofs.Ytjanmaddjjhjbaa.Pure
open Go.RowKit Go.Proofs.Ytjanmaddjjhjbaa.Hp Go.Proofs.YtjanmaddjjhjbaaW.PrintWords Go.Proofs.YtjanmaddjjhjbaaW.PrintLast Go.Proofs.YtjanmaddjjhjbaaW.PrintMore

/-- A flight that may be. -/
def C (s t o : Int) : Prop := 0 ≤ s ∧ 0 ≤ t ∧ 0 ≤ o ∧ t ≤ s ∧ o ≤ s - t
instance (s t o : Int) : Decidable (C s t o) := by unfold C; infer_instance
def roomV (s t o room : Int) : Int := if C s t o ∧ o ≤ room then room - o else 0
def sendV (s t o n room : Int) : Int × Int × Int × Int :=
  if ¬ (C s t o ∧ 1 ≤ n) then (s, t, o, 201) else if 9223372036854775807 < s + n then (s, t, o, 10) else if roomV s t o room < n then (s, t, o, 203) else (s + n, t, o + n, 0)
def backV (s t o n told : Int) : Int × Int × Int × Int :=
  if ¬ (C s t o ∧ 1 ≤ n) then (s, t, o, 201) else if o < n then (s, t, o, 202) else (s, t + told, o - n, 0)

theorem check_tells (s t o : Int) (hs : R s) (_ht : R t) (_ho : R o) : flight_Check.f s t o = some (decide (C s t o)) := by
  unfold flight_Check.f
  unfold R at hs
  by_cases h1 : s ≥ 0
  · rw [if_pos h1]
    by_cases h2 : t ≥ 0
    · rw [if_pos h2]
      by_cases h3 : o ≥ 0
      · rw [if_pos h3]
        by_cases h4 : t ≤ s
        · rw [if_pos h4, wrap64_id (by unfold R; omega)]
          congr 1
          by_cases h5 : o ≤ s - t
          · rw [decide_eq_true h5, decide_eq_true (by unfold C; omega)]
          · rw [decide_eq_false h5, decide_eq_false (by unfold C; omega)]
        · rw [if_neg h4, decide_eq_false (by unfold C; omega)]
      · rw [if_neg h3, decide_eq_false (by unfold C; omega)]
    · rw [if_neg h2, decide_eq_false (by unfold C; omega)]
  · rw [if_neg h1, decide_eq_false (by unfold C; omega)]

theorem room_tells (s t o room : Int) (hs : R s) (ht : R t) (ho : R o) (hr : R room) : flight_Room.f s t o room = some (roomV s t o room) := by
  unfold flight_Room.f roomV
  rw [check_tells s t o hs ht ho]
  simp only [Option.bind_some]
  unfold R at hr
  by_cases h : C s t o
  · rw [if_pos (decide_eq_true h)]
    have h' := h
    unfold C at h'
    by_cases h2 : room < o
    · rw [if_pos h2, if_neg (by omega)]
    · rw [if_neg h2, if_pos ⟨h, by omega⟩, wrap64_id (by unfold R; omega)]
  · rw [if_neg (by simpa using h), if_neg (fun e => h e.1)]

theorem send_tells (k : Nat) (s t o n room : Int) (hs : R s) (ht : R t) (ho : R o) (hn : R n) (hr : R room) : flight_Send.f (k + 1) s t o n room = some (sendV s t o n room) := by
  unfold flight_Send.f sendV
  rw [check_tells s t o hs ht ho]
  simp only [Option.bind_some, flight_Send.j0]
  by_cases h : C s t o
  · rw [if_pos (decide_eq_true h)]
    have h' := h
    unfold C at h'
    unfold R at hn hs ht ho
    by_cases h1 : n < 1
    · rw [if_pos (decide_eq_true h1), if_pos (show ¬ (C s t o ∧ 1 ≤ n) by omega)]
    · rw [if_neg (by simpa using h1), if_neg (show ¬ ¬ (C s t o ∧ 1 ≤ n) from fun e => e ⟨h, by omega⟩)]
      rw [wrap64_id (n := 9223372036854775807 - n) (by unfold R; omega)]
      by_cases h2 : s > 9223372036854775807 - n
      · rw [if_pos h2, if_pos (by omega)]
      · rw [if_neg h2, if_neg (by omega), room_tells s t o room hs ht ho hr]
        simp only [Option.bind_some]
        by_cases h3 : n > roomV s t o room
        · rw [if_pos h3, if_pos (by omega)]
        · rw [if_neg h3, if_neg (by omega), wrap64_id (n := s + n) (by unfold R; omega), wrap64_id (n := o + n) (by unfold R; omega)]
  · rw [if_neg (by simpa using h), if_pos trivial, if_pos (show ¬ (C s t o ∧ 1 ≤ n) from fun e => h e.1)]

theorem back_tells (k : Nat) (s t o n told : Int) (hs : R s) (ht : R t) (ho : R o) (hn : R n) (h0 : told = n ∨ told = 0) : flight_back.f (k + 1) s t o n told = some (backV s t o n told) := by
  unfold flight_back.f backV
  rw [check_tells s t o hs ht ho]
  simp only [Option.bind_some, flight_back.j0]
  by_cases h : C s t o
  · rw [if_pos (decide_eq_true h)]
    have h' := h
    unfold C at h'
    unfold R at hn hs
    by_cases h1 : n < 1
    · rw [if_pos (decide_eq_true h1), if_pos (show ¬ (C s t o ∧ 1 ≤ n) by omega)]
    · rw [if_neg (by simpa using h1), if_neg (show ¬ ¬ (C s t o ∧ 1 ≤ n) from fun e => e ⟨h, by omega⟩)]
      by_cases h2 : n > o
      · rw [if_pos h2, if_pos (by omega)]
      · rw [if_neg h2, if_neg (by omega), wrap64_id (n := t + told) (by unfold R; omega), wrap64_id (n := o - n) (by unfold R; omega)]
  · rw [if_neg (by simpa using h), if_pos trivial, if_pos (show ¬ (C s t o ∧ 1 ≤ n) from fun e => h e.1)]

theorem ack_tells (k : Nat) (s t o n : Int) (hs : R s) (ht : R t) (ho : R o) (hn : R n) : flight_Ack.f (k + 1) s t o n = some (backV s t o n n) := by
  unfold flight_Ack.f
  rw [back_tells k s t o n n hs ht ho hn (.inl rfl)]
  rfl
theorem lose_tells (k : Nat) (s t o n : Int) (hs : R s) (ht : R t) (ho : R o) (hn : R n) : flight_Lose.f (k + 1) s t o n = some (backV s t o n 0) := by
  unfold flight_Lose.f
  rw [back_tells k s t o n 0 hs ht ho hn (.inr rfl)]
  rfl

theorem sendV_R {s t o n room : Int} (hs : R s) (ht : R t) (ho : R o) : R (sendV s t o n room).1 ∧ R (sendV s t o n room).2.1 ∧ R (sendV s t o n room).2.2.1 := by
  unfold sendV
  split
  · exact ⟨hs, ht, ho⟩
  · rename_i h
    split
    · exact ⟨hs, ht, ho⟩
    · split
      · exact ⟨hs, ht, ho⟩
      · have h' := (Decidable.not_not.1 h)
        unfold C at h'
        unfold R at *
        refine ⟨?_, ?_, ?_⟩ <;> simp only <;> omega
theorem backV_R {s t o n told : Int} (hs : R s) (ht : R t) (ho : R o) (h0 : told = n ∨ told = 0) : R (backV s t o n told).1 ∧ R (backV s t o n told).2.1 ∧ R (backV s t o n told).2.2.1 := by
  unfold backV
  split
  · exact ⟨hs, ht, ho⟩
  · rename_i h
    split
    · exact ⟨hs, ht, ho⟩
    · have h' := (Decidable.not_not.1 h)
      unfold C at h'
      unfold R at *
      refine ⟨?_, ?_, ?_⟩ <;> simp only <;> omega

theorem sendV_ok {s t o n room : Int} (h : C s t o) (h1 : 1 ≤ n) (h2 : s + n ≤ 9223372036854775807) (h3 : n ≤ roomV s t o room) : sendV s t o n room = (s + n, t, o + n, 0) := by
  unfold sendV; rw [if_neg (fun e => e ⟨h, h1⟩), if_neg (by omega), if_neg (by omega)]
theorem sendV_over {s t o n room : Int} (h : C s t o) (h1 : 1 ≤ n) (h2 : 9223372036854775807 < s + n) : sendV s t o n room = (s, t, o, 10) := by
  unfold sendV; rw [if_neg (fun e => e ⟨h, h1⟩), if_pos h2]
theorem sendV_window {s t o n room : Int} (h : C s t o) (h1 : 1 ≤ n) (h2 : s + n ≤ 9223372036854775807) (h3 : roomV s t o room < n) : sendV s t o n room = (s, t, o, 203) := by
  unfold sendV; rw [if_neg (fun e => e ⟨h, h1⟩), if_neg (by omega), if_pos h3]
theorem sendV_field {s t o n room : Int} (h : ¬ (C s t o ∧ 1 ≤ n)) : sendV s t o n room = (s, t, o, 201) := by
  unfold sendV; rw [if_pos h]
theorem backV_ok {s t o n told : Int} (h : C s t o) (h1 : 1 ≤ n) (h2 : n ≤ o) : backV s t o n told = (s, t + told, o - n, 0) := by
  unfold backV; rw [if_neg (fun e => e ⟨h, h1⟩), if_neg (by omega)]
theorem backV_ack {s t o n told : Int} (h : C s t o) (h1 : 1 ≤ n) (h2 : o < n) : backV s t o n told = (s, t, o, 202) := by
  unfold backV; rw [if_neg (fun e => e ⟨h, h1⟩), if_pos h2]
theorem backV_field {s t o n told : Int} (h : ¬ (C s t o ∧ 1 ≤ n)) : backV s t o n told = (s, t, o, 201) := by
  unfold backV; rw [if_pos h]

theorem awake_tells (k : Nat) (hk : 24 ≤ k) : sawtoothlaw16_awake.f k = some true := at_rounds (fun k => sawtoothlaw16_awake.mono k) hk sawtoothlaw16_awake.tells

end Go.Proofs.Ytjanmaddjjhjbaa.Pure
