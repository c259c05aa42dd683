/- FlightTells over numbers alone: what the program answers is what the reference answers. -/
import Derived.Test.YtjanmaddjjhjbaaPureTells
import Derived.Test.YtjanmaddjjhjbaaPureRef
import Derived.Test.YtjanmaddjjhjbaaPureRefDo
import Derived.Test.YtjanmaddjjhjbaaHpx16
import Derived.OpenShut
namespace Go.Proofs.Ytjanmaddjjhjbaa.Pure
open Go.RowKit Go.Proofs.Ytjanmaddjjhjbaa.Hp Go.Proofs.YtjanmaddjjhjbaaW.PrintWords Go.Proofs.YtjanmaddjjhjbaaW.PrintLast Go.Proofs.YtjanmaddjjhjbaaW.PrintMore

theorem FlightTells (s t o : Int) (l : List S38) (n room : Int) (hs : (Lit.int .i64 s).wf = true) (ht : (Lit.int .i64 t).wf = true) (ho : (Lit.int .i64 o).wf = true)
    (hl : ∀ x ∈ l, (Lit.int .i64 x.f0).wf = true ∧ (Lit.int .i64 x.f1).wf = true ∧ (Lit.int .i64 x.f2).wf = true) (hn : (Lit.int .i64 n).wf = true) (hr : (Lit.int .i64 room).wf = true) :
    ∃ k, sawtoothlaw16_FlightTells.f k s t o l n room = some true := by
  have hs : R s := bounds_i64 hs
  have ht : R t := bounds_i64 ht
  have ho : R o := bounds_i64 ho
  have hn : R n := bounds_i64 hn
  have hr : R room := bounds_i64 hr
  have hl : ∀ x ∈ l, RS x := fun x hx => ⟨bounds_i64 (hl x hx).1, bounds_i64 (hl x hx).2.1, bounds_i64 (hl x hx).2.2⟩
  refine ⟨1023 + 1, ?_⟩
  unfold sawtoothlaw16_FlightTells.f
  rw [awake_tells _ (by omega)]
  simp only [Option.bind_some]
  by_cases h : (l.length : Int) > 100
  · rw [if_pos h]; rfl
  · rw [if_neg h, do_tells 1023 l hs ht ho hl (by omega), rdo_tells (1023 + 1) l hs ht ho hl (by omega) (by omega)]
    rw [send_tells 1023 s t o n room hs ht ho hn hr, rsend_tells 1023 s t o n room hs ht ho hn hr, ack_tells 1023 s t o n hs ht ho hn, rless_tells 1023 s t o n n hs ht ho hn (.inl rfl), lose_tells 1023 s t o n hs ht ho hn, rless_tells 1023 s t o n 0 hs ht ho hn (.inr rfl)]
    simp only [Option.bind_some, if_true, beq_self_eq_true, Bool.and_self]
    rw [same_tells _ (by rw [doV_length]; omega) (1023 + 1) (by rw [doV_length]; omega), check_tells s t o hs ht ho, rcheck_tells s t o hs ht ho, room_tells s t o room hs ht ho hr, rroom_tells s t o room hs ht ho hr]
    simp

end Go.Proofs.Ytjanmaddjjhjbaa.Pure
