/- FlightAlike over numbers alone: acts are done one behind the other, and those of no kind do nothing. -/
import Derived.Test.YtjanmaddjjhjbaaPureTells
import Derived.Test.YtjanmaddjjhjbaaPureRef
import Derived.Test.YtjanmaddjjhjbaaPureRefDo
import Derived.Test.YtjanmaddjjhjbaaHpx19p0
import Derived.OpenShut
namespace Go.Proofs.Ytjanmaddjjhjbaa.Pure
open Go.RowKit Go.Proofs.Ytjanmaddjjhjbaa.Hp Go.Proofs.YtjanmaddjjhjbaaW.PrintWords Go.Proofs.YtjanmaddjjhjbaaW.PrintLast Go.Proofs.YtjanmaddjjhjbaaW.PrintMore

theorem FlightAlike (s t o : Int) (l : List S38) (cut kind : Int) (hs : (Lit.int .i64 s).wf = true) (ht : (Lit.int .i64 t).wf = true) (ho : (Lit.int .i64 o).wf = true)
    (hl : ∀ x ∈ l, (Lit.int .i64 x.f0).wf = true ∧ (Lit.int .i64 x.f1).wf = true ∧ (Lit.int .i64 x.f2).wf = true) (hc : (Lit.int .u8 cut).wf = true) (_hk : (Lit.int .i64 kind).wf = true) :
    ∃ k, sawtoothlaw16_FlightAlike.f k s t o l cut kind = some true := by
  have hs : R s := bounds_i64 hs
  have ht : R t := bounds_i64 ht
  have ho : R o := bounds_i64 ho
  have hc := bounds_u8 hc
  have hkd : R kind := bounds_i64 _hk
  have hl : ∀ x ∈ l, RS x := fun x hx => ⟨bounds_i64 (hl x hx).1, bounds_i64 (hl x hx).2.1, bounds_i64 (hl x hx).2.2⟩
  refine ⟨1023 + 1, ?_⟩
  unfold sawtoothlaw16_FlightAlike.f
  rw [awake_tells _ (by omega)]
  simp only [Option.bind_some]
  by_cases h : (l.length : Int) > 100
  · rw [if_pos h]; rfl
  · rw [if_neg h, wrap64_id (n := (l.length : Int) + 1) (by unfold R; omega), wrap64_id (n := cut) (by unfold R; omega), if_neg (by omega), do_tells 1023 l hs ht ho hl (by omega)]
    obtain ⟨j, hj, hjl⟩ : ∃ j : Nat, Int.tmod cut ((l.length : Int) + 1) = j ∧ j ≤ l.length := by
      have h0 := Int.tmod_nonneg ((l.length : Int) + 1) hc.1
      have h1 := Int.tmod_lt_of_pos cut (b := (l.length : Int) + 1) (by omega)
      exact ⟨(Int.tmod cut ((l.length : Int) + 1)).toNat, by omega, by omega⟩
    simp only [hj, Option.bind_some, Int.toNat_natCast]
    rw [if_pos (by omega), if_pos (by omega)]
    have h1 : ∀ x ∈ l.take j, RS x := fun x hx => hl x (List.mem_of_mem_take hx)
    have h2 : ∀ x ∈ l.drop j, RS x := fun x hx => hl x (List.mem_of_mem_drop hx)
    obtain ⟨q1, q2, q3⟩ := doV_R (l.take j) hs ht ho
    rw [do_tells 1023 (l.take j) hs ht ho h1 (by simp; omega)]
    simp only [Option.bind_some]
    rw [do_tells 1023 (l.drop j) q1 q2 q3 h2 (by simp; omega)]
    have hone : ∀ x ∈ [(⟨kind, 1, 1⟩ : S38)], RS x := fun x hx => by simp at hx; subst hx; exact ⟨hkd, (by decide : R 1), (by decide : R 1)⟩
    rw [do_tells 1023 [(⟨kind, 1, 1⟩ : S38)] hs ht ho hone (by simp)]
    simp only [Option.bind_some]
    have happ := doV_append (l.take j) (l.drop j) s t o
    rw [List.take_append_drop] at happ
    have d1 := doV_length (l.take j) s t o
    have d2 := doV_length (l.drop j) (doV s t o (l.take j)).1 (doV s t o (l.take j)).2.1 (doV s t o (l.take j)).2.2.1
    have d3 := doV_length l s t o
    rw [happ] at d3
    rw [happ]
    simp only [beq_self_eq_true, Bool.and_self, if_true, List.nil_append, List.length_nil]
    simp only at d3
    rw [List.length_take] at d1
    rw [List.length_drop] at d2
    have hsame := same_tells _ (by rw [d3]; omega) (1023 + 1) (by rw [d3]; omega)
    have hA : 0 + (doV s t o (l.take j)).2.2.2.length < 17592186044416 := by omega
    have hAB : (doV s t o (l.take j)).2.2.2.length + (doV (doV s t o (l.take j)).1 (doV s t o (l.take j)).2.1 (doV s t o (l.take j)).2.2.1 (l.drop j)).2.2.2.length < 17592186044416 := by omega
    have hd : ¬ (0 ≤ kind ∧ kind ≤ 2) → doV s t o [(⟨kind, 1, 1⟩ : S38)] = (s, t, o, [201]) := fun hn => by
      simp [doV, actV, show ¬ kind = 0 from by omega, show ¬ kind = 1 from by omega, show ¬ kind = 2 from by omega]
    have s1 : sawtoothref16_Same.f (1023 + 1) [201] [201] = some true := same_tells _ (by simp) (1023 + 1) (by simp)
    by_cases k0 : kind ≥ 0
    · rw [if_pos k0]
      by_cases k2 : kind ≤ 2
      · rw [if_pos k2, if_pos hA, if_pos hAB, hsame]
        rfl
      · rw [if_neg k2, hd (by omega)]
        simp only [beq_self_eq_true, Bool.and_self, if_true]
        rw [s1]
        simp only [Option.bind_some]
        rw [if_pos hA, if_pos hAB, hsame]
        rfl
    · rw [if_neg k0, hd (by omega)]
      simp only [beq_self_eq_true, Bool.and_self, if_true]
      rw [s1]
      simp only [Option.bind_some]
      rw [if_pos hA, if_pos hAB, hsame]
      rfl

end Go.Proofs.Ytjanmaddjjhjbaa.Pure
