/- SafeTells over numbers alone: what the program answers is what the reference answers. -/
import Derived.Test.YtdgnhmghniloiaaPureTells
import Derived.Test.YtdgnhmghniloiaaPureRef
import Derived.Test.YtdgnhmghniloiaaHpx12
import Derived.OpenShut
namespace Go.Proofs.Ytdgnhmghniloiaa.Pure
open Go.RowKit Go.Proofs.Ytdgnhmghniloiaa.Hp Go.Proofs.YtdgnhmghniloiaaW.PrintWords Go.Proofs.YtdgnhmghniloiaaW.PrintLast Go.Proofs.YtdgnhmghniloiaaW.PrintMore

theorem SafeTells : sawtoothlaw01_SafeTells.Pure := by
  intro a b c ha hb hc
  have ha : R a := bounds_i64 ha
  have hb : R b := bounds_i64 hb
  have hc : R c := bounds_i64 hc
  refine ⟨2, ?_⟩
  unfold sawtoothlaw01_SafeTells.f
  simp only [awake_tells, plus_tells a b ha hb, ref_plus a b ha hb, times_tells a b ha hb, ref_times a b ha hb, add_tells a b ha hb, ref_add 1 a b ha hb, sub_tells a b ha hb, ref_sub 1 a b ha hb, mul_tells a b ha hb, ref_mul 1 a b ha hb, Option.bind_some, if_true, beq_self_eq_true, sawtoothlaw01_SafeTells.j0, abs_tells a ha, ref_abs 0 a ha, clamp_tells, ref_clamp]

end Go.Proofs.Ytdgnhmghniloiaa.Pure
