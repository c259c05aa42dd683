/- FlightTurns over numbers alone: what is told of, and what is lost, may come in either order. -/
import Derived.Test.YtjanmaddjjhjbaaPureTells
import Derived.Test.YtjanmaddjjhjbaaHpx20p0
import Derived.OpenShut
namespace Go.Proofs.Ytjanmaddjjhjbaa.Pure
open Go.RowKit Go.Proofs.Ytjanmaddjjhjbaa.Hp Go.Proofs.YtjanmaddjjhjbaaW.PrintWords Go.Proofs.YtjanmaddjjhjbaaW.PrintLast Go.Proofs.YtjanmaddjjhjbaaW.PrintMore

theorem FlightTurns (s t o : Int) (a b : Int) (hs : (Lit.int .i64 s).wf = true) (ht : (Lit.int .i64 t).wf = true) (ho : (Lit.int .i64 o).wf = true) (ha : (Lit.int .u32 a).wf = true) (hb : (Lit.int .u32 b).wf = true) :
    ∃ k, sawtoothlaw16_FlightTurns.f k s t o a b = some true := by
  have hs : R s := bounds_i64 hs
  have ht : R t := bounds_i64 ht
  have ho : R o := bounds_i64 ho
  have ha := bounds_u32 ha
  have hb := bounds_u32 hb
  have ra : R a := by unfold R; omega
  have rb : R b := by unfold R; omega
  have rn : R (1 + a) := by unfold R; omega
  have rm : R (1 + b) := by unfold R; omega
  have rnm : R (1 + a + (1 + b)) := by unfold R; omega
  refine ⟨24 + 1, ?_⟩
  unfold sawtoothlaw16_FlightTurns.f
  rw [awake_tells _ (by omega), wrap64_id ra, wrap64_id rb, wrap64_id rn, wrap64_id rm, wrap64_id rnm, ack_tells 24 s t o (1 + a) hs ht ho rn, lose_tells 24 s t o (1 + b) hs ht ho rm, check_tells s t o hs ht ho]
  simp only [Option.bind_some, if_true]
  by_cases h : C s t o
  · have h' := h
    unfold C at h'
    have hs' := hs
    unfold R at hs'
    by_cases h1 : 1 + a ≤ o
    · have r1 : R (t + (1 + a)) := by unfold R; omega
      have r2 : R (o - (1 + a)) := by unfold R; omega
      have c1 : C s (t + (1 + a)) (o - (1 + a)) := by unfold C; omega
      rw [backV_ok h (by omega) h1]
      simp only
      rw [lose_tells 24 s _ _ (1 + b) hs r1 r2 rm]
      simp only [Option.bind_some, if_true]
      by_cases h2 : 1 + b ≤ o
      · have r3 : R (o - (1 + b)) := by unfold R; omega
        have c2 : C s t (o - (1 + b)) := by unfold C; omega
        rw [backV_ok h (by omega) h2]
        simp only [Int.add_zero]
        rw [ack_tells 24 s t _ (1 + a) hs ht r3 rn]
        simp only [Option.bind_some, if_true]
        by_cases h3 : 1 + a + (1 + b) ≤ o
        · rw [backV_ok c1 (by omega) (by omega), backV_ok c2 (by omega) (by omega)]
          simp [h, show o - (1 + a) - (1 + b) = o - (1 + b) - (1 + a) from by omega, h3]
        · rw [backV_ack c1 (by omega) (by omega), backV_ack c2 (by omega) (by omega)]
          simp [h, h3]
      · rw [backV_ack h (by omega) (by omega)]
        simp only
        rw [ack_tells 24 s t o (1 + a) hs ht ho rn, backV_ok h (by omega) h1, backV_ack c1 (by omega) (by omega)]
        simp [h, show ¬ 1 + a + (1 + b) ≤ o from by omega]
    · rw [backV_ack h (by omega) (by omega)]
      simp only
      rw [lose_tells 24 s t o (1 + b) hs ht ho rm]
      by_cases h2 : 1 + b ≤ o
      · have r3 : R (o - (1 + b)) := by unfold R; omega
        have c2 : C s t (o - (1 + b)) := by unfold C; omega
        rw [backV_ok h (by omega) h2]
        simp only [Int.add_zero, Option.bind_some]
        rw [ack_tells 24 s t _ (1 + a) hs ht r3 rn, backV_ack c2 (by omega) (by omega)]
        simp [h, show ¬ 1 + a + (1 + b) ≤ o from by omega]
      · rw [backV_ack h (by omega) (by omega)]
        simp only [Option.bind_some]
        rw [ack_tells 24 s t o (1 + a) hs ht ho rn, backV_ack h (by omega) (by omega)]
        simp [h, show ¬ 1 + a + (1 + b) ≤ o from by omega]
  · have f1 : ∀ n told, backV s t o n told = (s, t, o, 201) := fun n told => backV_field (fun e => h e.1)
    rw [f1, f1]
    simp only
    rw [lose_tells 24 s t o (1 + b) hs ht ho rm, ack_tells 24 s t o (1 + a) hs ht ho rn, f1, f1]
    simp [h]

end Go.Proofs.Ytjanmaddjjhjbaa.Pure
