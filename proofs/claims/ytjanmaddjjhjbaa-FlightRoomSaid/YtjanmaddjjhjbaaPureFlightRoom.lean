/- FlightRoom over numbers alone: what is sent leaves no more on its way than there is room for. -/
import Derived.Test.YtjanmaddjjhjbaaPureTells
import Derived.Test.YtjanmaddjjhjbaaHpx17
import Derived.OpenShut
namespace Go.Proofs.Ytjanmaddjjhjbaa.Pure
open Go.RowKit Go.Proofs.Ytjanmaddjjhjbaa.Hp Go.Proofs.YtjanmaddjjhjbaaW.PrintWords Go.Proofs.YtjanmaddjjhjbaaW.PrintLast Go.Proofs.YtjanmaddjjhjbaaW.PrintMore

theorem FlightRoom (s t o n room : Int) (hs : (Lit.int .i64 s).wf = true) (ht : (Lit.int .i64 t).wf = true) (ho : (Lit.int .i64 o).wf = true) (hn : (Lit.int .u32 n).wf = true) (hr : (Lit.int .i64 room).wf = true) :
    ∃ k, sawtoothlaw16_FlightRoom.f k s t o n room = some true := by
  have hs : R s := bounds_i64 hs
  have ht : R t := bounds_i64 ht
  have ho : R o := bounds_i64 ho
  have hn := bounds_u32 hn
  have hr : R room := bounds_i64 hr
  refine ⟨24 + 2, ?_⟩
  unfold sawtoothlaw16_FlightRoom.f
  rw [awake_tells _ (by omega), check_tells s t o hs ht ho, wrap64_id (n := n) (by unfold R; omega), wrap64_id (n := 1 + n) (by unfold R; omega)]
  simp only [Option.bind_some, sawtoothlaw16_FlightRoom.j0]
  by_cases h : C s t o
  · rw [if_pos (decide_eq_true h)]
    by_cases h2 : s > 4611686018427387904
    · rw [if_pos (decide_eq_true h2)]; rfl
    · rw [if_neg (by simpa using h2), send_tells 24 s t o (1 + n) room hs ht ho (by unfold R; omega) hr, room_tells s t o room hs ht ho hr]
      simp only [Option.bind_some, if_true]
      have h' := h
      unfold C at h'
      by_cases h3 : roomV s t o room < 1 + n
      · have e : sendV s t o (1 + n) room = (s, t, o, 203) := sendV_window h (by omega) (by omega) h3
        rw [e]
        simp only
        rw [if_neg (by omega), if_neg (by omega)]
        simp
      · have e : sendV s t o (1 + n) room = (s + (1 + n), t, o + (1 + n), 0) := sendV_ok h (by omega) (by omega) (by omega)
        have hro : roomV s t o room = room - o ∧ o ≤ room := by
          unfold roomV at h3 ⊢
          by_cases hc : C s t o ∧ o ≤ room
          · rw [if_pos hc]; exact ⟨rfl, hc.2⟩
          · rw [if_neg hc] at h3; exact absurd h3 (by omega)
        rw [e]
        unfold R at hs hr
        have r1 : R (s + (1 + n)) := by unfold R; omega
        have r2 : R (o + (1 + n)) := by unfold R; omega
        have hc2 : C (s + (1 + n)) t (o + (1 + n)) := by unfold C; omega
        simp only [if_true]
        rw [if_pos (by omega), if_pos (by omega), wrap64_id r2, if_pos rfl, room_tells _ t _ room r1 ht r2 hr]
        simp only [Option.bind_some]
        rw [wrap64_id (by unfold R; omega), if_pos (by unfold roomV; rw [if_pos ⟨hc2, by omega⟩, if_pos ⟨h, hro.2⟩]; omega)]
  · rw [if_neg (by simpa using h)]
    simp

end Go.Proofs.Ytjanmaddjjhjbaa.Pure
