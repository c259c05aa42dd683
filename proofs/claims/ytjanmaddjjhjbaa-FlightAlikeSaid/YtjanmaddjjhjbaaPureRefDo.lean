/- What acts do, by the reference. -/
import Derived.Test.YtjanmaddjjhjbaaPureRef
import Derived.Test.YtjanmaddjjhjbaaPureDo
import Derived.Test.YtjanmaddjjhjbaaHpx14
import Derived.Test.YtjanmaddjjhjbaaHpx15
import Derived.OpenShut
namespace Go.Proofs.Ytjanmaddjjhjbaa.Pure
open Go.RowKit Go.Proofs.Ytjanmaddjjhjbaa.Hp Go.Proofs.YtjanmaddjjhjbaaW.PrintWords Go.Proofs.YtjanmaddjjhjbaaW.PrintLast Go.Proofs.YtjanmaddjjhjbaaW.PrintMore

theorem ract_tells (k : Nat) {x y z a b c : Int} (hx : R x) (hy : R y) (hz : R z) (hb : R b) (hc : R c) : sawtoothref16_Act.f (k + 1) x y z a b c = some (actV x y z a b c) := by
  unfold sawtoothref16_Act.f actV
  rw [rsend_tells k x y z b c hx hy hz hb hc, rless_tells k x y z b b hx hy hz hb (.inl rfl), rless_tells k x y z b 0 hx hy hz hb (.inr rfl)]
  simp only [Option.bind_some]
  split
  · rfl
  · split
    · rfl
    · split <;> rfl
theorem rd_mem (l : List S38) (j : Nat) (h : j < l.length) : rd_T38 l j ∈ l := by
  unfold rd_T38
  rw [List.getD_eq_getElem?_getD, Int.toNat_natCast, List.getElem?_eq_getElem h]
  exact List.getElem_mem h
theorem rdo_loop (l : List S38) (hn : l.length ≤ 1000) (hl : ∀ a ∈ l, RS a) (d : Nat) : ∀ (k j : Nat) (es : List Int) {x y z : Int}, R x → R y → R z → j + d = l.length → es.length = j → d + 1 < k →
    sawtoothref16_Do.l0 k l es j x y z = some (let q := doV x y z (l.drop j); (q.1, q.2.1, q.2.2.1, es ++ q.2.2.2)) := by
  induction d with
  | zero =>
    intro k j es x y z _ _ _ hj he hk
    obtain ⟨k, rfl⟩ : ∃ q, k = q + 1 := ⟨k - 1, by omega⟩
    simp only [sawtoothref16_Do.l0]
    rw [if_neg (by omega), List.drop_eq_nil_of_le (by omega)]
    simp [doV]
  | succ d ih =>
    intro k j es x y z hx hy hz hj he hk
    obtain ⟨k, rfl⟩ : ∃ q, k = q + 1 := ⟨k - 1, by omega⟩
    have hlt : j < l.length := by omega
    obtain ⟨_, h1, h2⟩ := hl _ (rd_mem l j hlt)
    obtain ⟨r1, r2, r3⟩ := actV_R (a := (rd_T38 l j).f0) (b := (rd_T38 l j).f1) (c := (rd_T38 l j).f2) hx hy hz
    have hact : sawtoothref16_Act.f k x y z (rd_T38 l j).f0 (rd_T38 l j).f1 (rd_T38 l j).f2 = some (actV x y z (rd_T38 l j).f0 (rd_T38 l j).f1 (rd_T38 l j).f2) := by
      obtain ⟨q, rfl⟩ : ∃ q, k = q + 1 := ⟨k - 1, by omega⟩
      exact ract_tells q hx hy hz h1 h2
    simp only [sawtoothref16_Do.l0]
    rw [if_pos (by omega), if_pos (by omega), hact]
    simp only [Option.bind_some]
    rw [if_pos (by omega), wrap64_id (by unfold R; omega), drop_at l j hlt]
    have := ih k (j + 1) (es ++ [(actV x y z (rd_T38 l j).f0 (rd_T38 l j).f1 (rd_T38 l j).f2).2.2.2]) r1 r2 r3 (by omega) (by simp [he]) (by omega)
    rw [Int.natCast_succ] at this
    rw [this]
    simp only [doV, List.append_assoc, List.singleton_append]
theorem rdo_tells (k : Nat) (l : List S38) {x y z : Int} (hx : R x) (hy : R y) (hz : R z) (hl : ∀ a ∈ l, RS a) (hn : l.length ≤ 1000) (hk : l.length + 1 < k) : sawtoothref16_Do.f k x y z l = some (doV x y z l) := by
  unfold sawtoothref16_Do.f
  have := rdo_loop l hn hl l.length k 0 [] hx hy hz (by omega) rfl hk
  simpa using this

end Go.Proofs.Ytjanmaddjjhjbaa.Pure
