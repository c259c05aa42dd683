/- FlightBack over numbers alone: what was sent, and told of, leaves as much on its way as there was. -/
import Derived.Test.YtjanmaddjjhjbaaPureTells
import Derived.Test.YtjanmaddjjhjbaaHpx18
import Derived.OpenShut
namespace Go.Proofs.Ytjanmaddjjhjbaa.Pure
open Go.RowKit Go.Proofs.Ytjanmaddjjhjbaa.Hp Go.Proofs.YtjanmaddjjhjbaaW.PrintWords Go.Proofs.YtjanmaddjjhjbaaW.PrintLast Go.Proofs.YtjanmaddjjhjbaaW.PrintMore

theorem FlightBack (s t o n room : Int) (hs : (Lit.int .i64 s).wf = true) (ht : (Lit.int .i64 t).wf = true) (ho : (Lit.int .i64 o).wf = true) (hn : (Lit.int .u32 n).wf = true) (hr : (Lit.int .i64 room).wf = true) :
    ∃ k, sawtoothlaw16_FlightBack.f k s t o n room = some true := by
  have hs : R s := bounds_i64 hs
  have ht : R t := bounds_i64 ht
  have ho : R o := bounds_i64 ho
  have hn := bounds_u32 hn
  have hr : R room := bounds_i64 hr
  refine ⟨24 + 1, ?_⟩
  unfold sawtoothlaw16_FlightBack.f
  rw [awake_tells _ (by omega), wrap64_id (n := n) (by unfold R; omega), wrap64_id (n := 1 + n) (by unfold R; omega), send_tells 24 s t o (1 + n) room hs ht ho (by unfold R; omega) hr]
  simp only [Option.bind_some, if_true]
  by_cases h1 : C s t o ∧ s + (1 + n) ≤ 9223372036854775807 ∧ 1 + n ≤ roomV s t o room
  · obtain ⟨h, h2, h3⟩ := h1
    have h' := h
    unfold C at h'
    have e : sendV s t o (1 + n) room = (s + (1 + n), t, o + (1 + n), 0) := sendV_ok h (by omega) h2 h3
    rw [e]
    unfold R at hs
    have r1 : R (s + (1 + n)) := by unfold R; omega
    have r2 : R (o + (1 + n)) := by unfold R; omega
    have rn : R (1 + n) := by unfold R; omega
    have rs : R s := hs
    have hc2 : C (s + (1 + n)) t (o + (1 + n)) := by unfold C; omega
    simp only [if_true]
    rw [ack_tells 24 _ t _ (1 + n) r1 ht r2 rn, lose_tells 24 _ t _ (1 + n) r1 ht r2 rn]
    have ea : backV (s + (1 + n)) t (o + (1 + n)) (1 + n) (1 + n) = (s + (1 + n), t + (1 + n), o, 0) := by
      rw [backV_ok hc2 (by omega) (by omega)]; congr 3; omega
    have el : backV (s + (1 + n)) t (o + (1 + n)) (1 + n) 0 = (s + (1 + n), t, o, 0) := by
      rw [backV_ok hc2 (by omega) (by omega)]; simp only [Int.add_zero]; congr 3; omega
    rw [ea, el]
    simp only [Option.bind_some, if_true]
    have hc3 : C (s + (1 + n)) t o := by unfold C; omega
    have r3 : R (o + 1) := by unfold R; omega
    have r4 : R (t + (1 + n)) := by unfold R; omega
    rw [wrap64_id r3, wrap64_id r4, ack_tells 24 _ t o (o + 1) r1 ht ho r3, send_tells 24 _ t o (1 + n) room r1 ht ho rn hr]
    have ej : backV (s + (1 + n)) t o (o + 1) (o + 1) = (s + (1 + n), t, o, 202) := backV_ack hc3 (by omega) (by omega)
    rw [ej]
    simp only [Option.bind_some, if_true]
    by_cases h4 : 9223372036854775807 < s + (1 + n) + (1 + n)
    · have es : sendV (s + (1 + n)) t o (1 + n) room = (s + (1 + n), t, o, 10) := sendV_over hc3 (by omega) h4
      rw [es]
      simp
    · have hro : roomV (s + (1 + n)) t o room = roomV s t o room := by
        unfold roomV
        by_cases hro : o ≤ room
        · rw [if_pos ⟨hc3, hro⟩, if_pos ⟨h, hro⟩]
        · rw [if_neg (fun e => hro e.2), if_neg (fun e => hro e.2)]
      have es : sendV (s + (1 + n)) t o (1 + n) room = (s + (1 + n) + (1 + n), t, o + (1 + n), 0) := sendV_ok hc3 (by omega) (by omega) (by omega)
      rw [es]
      simp
  · have e : ∃ c, sendV s t o (1 + n) room = (s, t, o, c) ∧ c ≠ 0 := by
      by_cases hc : C s t o
      · by_cases h2 : 9223372036854775807 < s + (1 + n)
        · exact ⟨10, sendV_over hc (by omega) h2, by omega⟩
        · by_cases h3 : roomV s t o room < 1 + n
          · exact ⟨203, sendV_window hc (by omega) (by omega) h3, by omega⟩
          · exact absurd ⟨hc, by omega, by omega⟩ h1
      · exact ⟨201, sendV_field (fun e => hc e.1), by omega⟩
    obtain ⟨c, e, hc⟩ := e
    rw [e]
    simp only
    rw [if_neg hc]
    simp

end Go.Proofs.Ytjanmaddjjhjbaa.Pure
