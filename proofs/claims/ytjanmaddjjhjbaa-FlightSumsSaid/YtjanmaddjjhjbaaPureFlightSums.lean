/- FlightSums over numbers alone: what was sent is what was told of, lost, and is on its way. -/
import Derived.Test.YtjanmaddjjhjbaaPureTells
import Derived.Test.YtjanmaddjjhjbaaPureDo
import Derived.Test.YtjanmaddjjhjbaaHpx0
import Derived.Test.YtjanmaddjjhjbaaHpx10
import Derived.OpenShut
namespace Go.Proofs.Ytjanmaddjjhjbaa.Pure
open Go.RowKit Go.Proofs.Ytjanmaddjjhjbaa.Hp Go.Proofs.YtjanmaddjjhjbaaW.PrintWords Go.Proofs.YtjanmaddjjhjbaaW.PrintLast Go.Proofs.YtjanmaddjjhjbaaW.PrintMore

theorem i32_in {a : Int} (h : (Lit.int .i32 a).wf = true) : -2147483648 ≤ a ∧ a ≤ 2147483647 := by
  simp [Lit.wf] at h
  have e1 : IntKind.i32.min = -2147483648 := rfl
  have e2 : IntKind.i32.max = 2147483647 := rfl
  omega
/-- What one act does: nothing with an error; else just what it says. -/
theorem act_says {x y z a b c : Int} (h : C x y z) (hx : x ≤ 1000000000000) (hb : b ≤ 2147483647) :
    ((actV x y z a b c).2.2.2 = 0 ∧ 1 ≤ b ∧ ((a = 0 ∧ actV x y z a b c = (x + b, y, z + b, 0)) ∨ (a = 1 ∧ b ≤ z ∧ actV x y z a b c = (x, y + b, z - b, 0)) ∨ (a = 2 ∧ b ≤ z ∧ actV x y z a b c = (x, y, z - b, 0)))) ∨
    (∃ e, e ≠ 0 ∧ actV x y z a b c = (x, y, z, e)) := by
  have h' := h
  unfold C at h'
  have back : ∀ told, (1 ≤ b ∧ b ≤ z ∧ backV x y z b told = (x, y + told, z - b, 0)) ∨ (∃ e, e ≠ 0 ∧ backV x y z b told = (x, y, z, e)) := by
    intro told
    by_cases h1 : 1 ≤ b
    · by_cases h2 : b ≤ z
      · exact .inl ⟨h1, h2, backV_ok h h1 h2⟩
      · exact .inr ⟨202, by decide, backV_ack h h1 (by omega)⟩
    · exact .inr ⟨201, by decide, backV_field (fun e => h1 e.2)⟩
  unfold actV
  by_cases c0 : a = 0
  · rw [if_pos c0]
    by_cases h1 : 1 ≤ b
    · by_cases h3 : b ≤ roomV x y z c
      · rw [sendV_ok h h1 (by omega) h3]
        exact .inl ⟨rfl, h1, .inl ⟨c0, rfl⟩⟩
      · rw [sendV_window h h1 (by omega) (by omega)]
        exact .inr ⟨203, by decide, rfl⟩
    · rw [sendV_field (fun e => h1 e.2)]
      exact .inr ⟨201, by decide, rfl⟩
  · rw [if_neg c0]
    by_cases c1 : a = 1
    · rw [if_pos c1]
      rcases back b with ⟨h1, h2, h3⟩ | h3
      · rw [h3]; exact .inl ⟨rfl, h1, .inr (.inl ⟨c1, h2, rfl⟩)⟩
      · exact .inr h3
    · rw [if_neg c1]
      by_cases c2 : a = 2
      · rw [if_pos c2]
        rcases back 0 with ⟨h1, h2, h3⟩ | h3
        · rw [h3, Int.add_zero]; exact .inl ⟨rfl, h1, .inr (.inr ⟨c2, h2, rfl⟩)⟩
        · exact .inr h3
      · rw [if_neg c2]
        exact .inr ⟨201, by decide, rfl⟩
theorem sums_loop (l : List S39) (hl : ∀ x ∈ l, (Lit.int .i32 x.f0).wf = true ∧ (Lit.int .i32 x.f1).wf = true ∧ (Lit.int .i32 x.f2).wf = true) (hlen : l.length ≤ 100) (d : Nat) :
    ∀ (k i : Nat) (p q r : Int), i ≤ l.length → l.length - i = d → 3 * d + 50 < k → 0 ≤ q → 0 ≤ r → q + r ≤ p → p ≤ i * 2147483647 → sawtoothlaw16_FlightSums.l0 k l true (i : Int) p q (p - q - r) p q r = some true := by
  induction d with
  | zero =>
    intro k i p q r h1 hd hk _ _ _ _
    obtain ⟨k, rfl⟩ : ∃ m, k = m + 1 := ⟨k - 1, by omega⟩
    simp only [sawtoothlaw16_FlightSums.l0]
    rw [if_neg (by omega)]
    rfl
  | succ d ih =>
    intro k i p q r h1 hd hk hq hr hs hp
    obtain ⟨k, rfl⟩ : ∃ m, k = m + 4 := ⟨k - 4, by omega⟩
    have hwr : wrap64 ((i : Int) + 1) = ((i + 1 : Nat) : Int) := by rw [wrap64_id (by unfold R; omega)]; omega
    have hi : i < l.length := by omega
    have hm := hl (rd_T39 l i) (by
      unfold rd_T39
      simp [List.getD_eq_getElem?_getD, hi])
    have b0 := i32_in hm.1
    have b1 := i32_in hm.2.1
    have b2 := i32_in hm.2.2
    have hC : C p q (p - q - r) := by unfold C; omega
    have hpn : p ≤ 214748364700 := by
      have : (i : Int) * 2147483647 ≤ 100 * 2147483647 := by omega
      omega
    have hin : p ≤ (i : Int) * 2147483647 := hp
    simp only [sawtoothlaw16_FlightSums.l0]
    rw [if_pos (by omega), if_pos (by omega)]
    generalize rd_T39 l (i : Int) = m at *
    rw [wrap64_id (n := m.f0) (by unfold R; omega), wrap64_id (n := m.f1) (by unfold R; omega), wrap64_id (n := m.f2) (by unfold R; omega)]
    rw [do_tells (k + 2) [(⟨m.f0, m.f1, m.f2⟩ : S38)] (x := p) (y := q) (z := p - q - r) (by unfold R; omega) (by unfold R; omega) (by unfold R; omega) (fun a ha => by rw [List.mem_singleton.1 ha]; exact ⟨show R m.f0 by unfold R; omega, show R m.f1 by unfold R; omega, show R m.f2 by unfold R; omega⟩) (by simp)]
    simp only [Option.bind_some, doV, List.length_singleton]
    rw [if_pos (by decide), if_pos (by decide)]
    have rd1 : ∀ e : Int, rd [e] 0 = e := fun e => rfl
    rw [rd1]
    have fin : ∀ p' q' r' : Int, 0 ≤ q' → 0 ≤ r' → q' + r' ≤ p' → p' ≤ p + 2147483647 → sawtoothlaw16_FlightSums.l0 (k + 1) l true (wrap64 ((i : Int) + 1)) p' q' (p' - q' - r') p' q' r' = some true := fun p' q' r' g1 g2 g3 g4 => by
      rw [hwr]
      exact ih (k + 1) (i + 1) p' q' r' (by omega) (by omega) (by omega) g1 g2 g3 (by omega)
    rcases act_says (a := m.f0) (b := m.f1) (c := m.f2) hC (by omega) b1.2 with ⟨e0, hb, hc⟩ | ⟨e, he, hA⟩
    · rw [if_pos e0]
      rw [e0]
      simp only [sawtoothlaw16_FlightSums.j1, List.length_singleton, rd1]
      rw [if_neg (by decide), if_pos (by decide)]
      simp only [if_true]
      rcases hc with ⟨ha, hA⟩ | ⟨ha, hbz, hA⟩ | ⟨ha, hbz, hA⟩
      · rw [hA, ha, if_neg (by decide), show decide ((0 : Int) > 2) = false from rfl]
        simp only [sawtoothlaw16_FlightSums.j2, Bool.false_eq_true, if_false, if_true]
        skip
        try simp only [if_true]
        rw [check_tells _ _ _ (by unfold R; omega) (by unfold R; omega) (by unfold R; omega), decide_eq_true (show C (p + m.f1) q (p - q - r + m.f1) by unfold C; omega)]
        simp only [Option.bind_some, if_true]
        rw [wrap64_id (n := p + m.f1) (by unfold R; omega), wrap64_id (n := p + m.f1 - q) (by unfold R; omega), wrap64_id (n := p + m.f1 - q - r) (by unfold R; omega)]
        rw [if_pos rfl, if_pos (by omega), show p - q - r + m.f1 = p + m.f1 - q - r by omega]
        exact fin (p + m.f1) q r hq hr (by omega) (by omega)
      · rw [hA, ha, if_neg (by decide), show decide ((1 : Int) > 2) = false from rfl]
        simp only [sawtoothlaw16_FlightSums.j2, Bool.false_eq_true, if_false, if_true]
        try rw [if_neg (show ¬ ((1 : Int) = 0) by decide)]
        try simp only [if_true]
        rw [check_tells _ _ _ (by unfold R; omega) (by unfold R; omega) (by unfold R; omega), decide_eq_true (show C p (q + m.f1) (p - q - r - m.f1) by unfold C; omega)]
        simp only [Option.bind_some, if_true]
        rw [wrap64_id (n := q + m.f1) (by unfold R; omega), wrap64_id (n := p - (q + m.f1)) (by unfold R; omega), wrap64_id (n := p - (q + m.f1) - r) (by unfold R; omega)]
        rw [if_pos rfl, if_pos (by omega), show p - q - r - m.f1 = p - (q + m.f1) - r by omega]
        exact fin p (q + m.f1) r (by omega) hr (by omega) (by omega)
      · rw [hA, ha, if_neg (by decide), show decide ((2 : Int) > 2) = false from rfl]
        simp only [sawtoothlaw16_FlightSums.j2, Bool.false_eq_true, if_false, if_true]
        (repeat rw [if_neg (show ¬ ((2 : Int) = 0) by decide)])
        (repeat rw [if_neg (show ¬ ((2 : Int) = 1) by decide)])
        try simp only [if_true]
        rw [check_tells _ _ _ (by unfold R; omega) (by unfold R; omega) (by unfold R; omega), decide_eq_true (show C p q (p - q - r - m.f1) by unfold C; omega)]
        simp only [Option.bind_some, if_true]
        rw [wrap64_id (n := r + m.f1) (by unfold R; omega), wrap64_id (n := p - q) (by unfold R; omega), wrap64_id (n := p - q - (r + m.f1)) (by unfold R; omega)]
        rw [if_pos (by omega), show p - q - r - m.f1 = p - q - (r + m.f1) by omega]
        exact fin p q (r + m.f1) hq (by omega) (by omega) (by omega)
    · rw [hA, if_neg he]
      have ez : (!(p == p) || (!(q == q) || !(p - q - r == p - q - r))) = false := by simp
      simp only [ez]
      simp only [sawtoothlaw16_FlightSums.j1, List.length_singleton, rd1]
      rw [if_neg (by decide), if_pos (by decide), if_neg he, check_tells _ _ _ (by unfold R; omega) (by unfold R; omega) (by unfold R; omega), decide_eq_true hC]
      simp only [Option.bind_some, if_true]
      rw [wrap64_id (n := p - q) (by unfold R; omega), wrap64_id (n := p - q - r) (by unfold R; omega), if_pos rfl, hwr]
      exact ih (k + 2) (i + 1) p q r (by omega) (by omega) (by omega) hq hr hs (by omega)
theorem FlightSums (l : List S39) (hl : ∀ x ∈ l, (Lit.int .i32 x.f0).wf = true ∧ (Lit.int .i32 x.f1).wf = true ∧ (Lit.int .i32 x.f2).wf = true) : ∃ k, sawtoothlaw16_FlightSums.f k l = some true := by
  refine ⟨1000, ?_⟩
  unfold sawtoothlaw16_FlightSums.f
  rw [awake_tells 1000 (by omega)]
  simp only [Option.bind_some]
  by_cases h : (l.length : Int) > 100
  · rw [if_pos h]; rfl
  · rw [if_neg h]
    have h2 := sums_loop l hl (by omega) l.length 1000 0 0 0 0 (Nat.zero_le _) rfl (by omega) (by omega) (by omega) (by omega) (by omega)
    exact h2

end Go.Proofs.Ytjanmaddjjhjbaa.Pure
