/- The plain law LeastLater. -/
import Derived.Test.YtghhjkjdeohmiaaPureTold
import Derived.Test.YtghhjkjdeohmiaaHpx23
namespace Go.Proofs.Ytghhjkjdeohmiaa.Pure
open Go.RowKit Go.Proofs.YtghhjkjdeohmiaaW.PrintWords Go.Proofs.Ytghhjkjdeohmiaa.Hp
set_option linter.unusedVariables false
set_option linter.unusedSimpArgs false
/-- The same marks, so much later. -/
def sh (b : Int) (l : List S28) : List S28 := l.map (fun m => ⟨m.f0 + b, m.f1⟩)
def Small (l : List S28) : Prop := ∀ m ∈ l, 0 ≤ m.f0 ∧ m.f0 < 4294967296
theorem sh_good {b : Int} (hb : 0 ≤ b ∧ b ≤ 4294967295) {l : List S28} (hs : Small l) (h : Good l) : Good (sh b l) := by
  refine ⟨fun m hm => ?_, ?_⟩
  · obtain ⟨x, hx, rfl⟩ := List.mem_map.1 hm
    have := hs x hx
    exact ⟨by simp only; omega, by simp only; omega⟩
  · unfold sh
    rw [List.pairwise_map]
    exact h.2.imp (fun {a c} hr => ⟨by have := hr.1; simp only; omega, hr.2⟩)
theorem sh_last (b : Int) (l : List S28) : lastAt (sh b l) = (lastAt l).map (· + b) := by
  unfold lastAt sh
  rw [List.getLast?_map]
  cases l.getLast? <;> rfl
theorem sh_tw (b n : Int) : ∀ (l : List S28), (sh b l).takeWhile (fun m : S28 => decide (m.f1 < n)) = sh b (l.takeWhile (fun m : S28 => decide (m.f1 < n)))
  | [] => rfl
  | m :: l => by
    show List.takeWhile _ ((⟨m.f0 + b, m.f1⟩ : S28) :: sh b l) = _
    rw [List.takeWhile_cons, List.takeWhile_cons]
    by_cases c : m.f1 < n
    · rw [if_pos (decide_eq_true c), if_pos (decide_eq_true c), sh_tw b n l]; rfl
    · rw [if_neg (by simpa using c), if_neg (by simpa using c)]; rfl
theorem sh_dw (b c : Int) : ∀ (l : List S28), (sh b l).dropWhile (fun m : S28 => decide (m.f0 < c + b)) = sh b (l.dropWhile (fun m : S28 => decide (m.f0 < c)))
  | [] => rfl
  | m :: l => by
    show List.dropWhile _ ((⟨m.f0 + b, m.f1⟩ : S28) :: sh b l) = _
    rw [List.dropWhile_cons, List.dropWhile_cons]
    by_cases h : m.f0 < c
    · rw [if_pos (decide_eq_true (show m.f0 + b < c + b by omega)), if_pos (decide_eq_true h), sh_dw b c l]
    · rw [if_neg (by simp only [decide_eq_true_eq]; omega), if_neg (by simpa using h)]; rfl
theorem sh_pl (b w at_ n : Int) (l : List S28) : pl (sh b l) w (at_ + b) n = sh b (pl l w at_ n) := by
  unfold pl
  rw [sh_tw, show at_ + b - w = (at_ - w) + b by omega, ← sh_dw]
  unfold sh
  rw [List.map_append]
  rfl
theorem sh_late (b at_ : Int) (l : List S28) : Late (sh b l) (at_ + b) ↔ Late l at_ := by
  unfold Late
  rw [sh_last]
  constructor
  · intro h a ha
    have := h (a + b) (by rw [ha]; rfl)
    omega
  · intro h a ha
    cases e : lastAt l with
    | none => rw [e] at ha; cases ha
    | some q =>
      rw [e] at ha
      cases ha
      have := h q e
      simp only
      omega
theorem pl_small {l : List S28} {w at_ n : Int} (hw : 0 ≤ w) (hs : Small l) (ha : 0 ≤ at_ ∧ at_ < 4294967296) : Small (pl l w at_ n) := by
  intro m hm
  rw [pl_form hw] at hm
  rcases List.mem_append.1 hm with hm | hm
  · exact hs m (((dw_sub _ _).trans (tw_sub _ _)).subset hm)
  · rw [List.mem_singleton.1 hm]; exact ha
theorem later_l1 (b : Int) (hb : 0 ≤ b ∧ b ≤ 4294967295) (l : List S28) (hs : Small l) (hl : l.length ≤ 200) (d : Nat) : ∀ (k i : Nat), i ≤ l.length → l.length - i = d → d < k → sawtoothlaw08_LeastLater.l1 k b true l (sh b l) (i : Int) = some true := by
  have hlen : (sh b l).length = l.length := by simp [sh]
  induction d with
  | zero =>
    intro k i h1 hd hk
    obtain ⟨k, rfl⟩ : ∃ m, k = m + 1 := ⟨k - 1, by omega⟩
    simp only [sawtoothlaw08_LeastLater.l1]
    rw [if_neg (by omega)]
    rfl
  | succ d ih =>
    intro k i h1 hd hk
    obtain ⟨k, rfl⟩ : ∃ m, k = m + 1 := ⟨k - 1, by omega⟩
    have hwr : wrap64 ((i : Int) + 1) = ((i + 1 : Nat) : Int) := by rw [wrap64_id (by omega)]; omega
    have hlt : i < l.length := by omega
    have hm : rd_T28 l i ∈ l := by
      have h := rd_drop l i hlt
      exact List.mem_of_mem_drop (i := i) (by rw [h]; exact List.mem_cons_self)
    have hsm := hs _ hm
    have hrd : rd_T28 (sh b l) i = ⟨(rd_T28 l i).f0 + b, (rd_T28 l i).f1⟩ := by
      unfold rd_T28 sh
      simp [List.getD_eq_getElem?_getD, hlt]
    simp only [sawtoothlaw08_LeastLater.l1]
    rw [if_pos (by omega), if_pos (by omega), if_pos (by omega), hrd, wrap64_id (n := b) (by omega), wrap64_id (n := (rd_T28 l i).f0 + b) (by omega), if_pos rfl, if_pos rfl, hwr]
    exact ih k (i + 1) (by omega) (by omega) (by omega)
theorem later_loop (w : Int) (hw : 0 ≤ w ∧ w ≤ 4294967295) (p : List S28) (hp : p.length ≤ 100) (b : Int) (hb : 0 ≤ b ∧ b ≤ 4294967295) (d : Nat) : ∀ (k i : Nat) (l : List S28), i ≤ p.length → p.length - i = d → 2 * d + 700 < k → l.length ≤ i → Good l → Small l →
    sawtoothlaw08_LeastLater.l0 k w p b true l (sh b l) (i : Int) = some true := by
  induction d with
  | zero =>
    intro k i l h1 hd hk hl hG hs
    obtain ⟨k, rfl⟩ : ∃ m, k = m + 1 := ⟨k - 1, by omega⟩
    simp only [sawtoothlaw08_LeastLater.l0]
    rw [if_neg (by omega)]
    exact later_l1 b hb l hs (by omega) l.length k 0 (Nat.zero_le _) rfl (by omega)
  | succ d ih =>
    intro k i l h1 hd hk hl hG hs
    obtain ⟨k, rfl⟩ : ∃ m, k = m + 2 := ⟨k - 2, by omega⟩
    have hlen : (sh b l).length = l.length := by simp [sh]
    have hwr : wrap64 ((i : Int) + 1) = ((i + 1 : Nat) : Int) := by rw [wrap64_id (by omega)]; omega
    have up : sawtoothlaw08_LeastLater.j1 (k + 1) w p b true l (sh b l) (i : Int) true = some true := by simp only [sawtoothlaw08_LeastLater.j1, if_true]
    simp only [sawtoothlaw08_LeastLater.l0]
    rw [if_pos (by omega), if_pos (by omega)]
    by_cases c1 : (rd_T28 p i).f0 < 0
    · rw [if_pos c1]; exact up
    · rw [if_neg c1]
      by_cases c2 : (rd_T28 p i).f0 ≥ 4294967296
      · rw [decide_eq_true c2]; exact up
      · rw [decide_eq_false c2]
        simp only [sawtoothlaw08_LeastLater.j1]
        rw [if_neg (by simp), if_pos (by omega), if_pos (by omega), wrap64_id (n := w) (by omega), wrap64_id (n := b) (by omega)]
        generalize rd_T28 p (i : Int) = m at *
        rw [wrap64_id (n := m.f0 + b) (by omega), put_tells l (by omega) w _ _ (by omega) k (by omega), put_tells (sh b l) (by omega) w _ _ (by omega) k (by omega), hwr]
        simp only [Option.bind_some]
        have hT : T m.f0 := ⟨by omega, by omega⟩
        have hT2 : T (m.f0 + b) := ⟨by omega, by omega⟩
        by_cases c3 : Late l m.f0
        · rw [puts_ok hG hT hw.1 c3, puts_ok (sh_good hb hs hG) hT2 hw.1 ((sh_late b m.f0 l).2 c3), sh_pl]
          have hl2 := pl_length (l := l) (at_ := m.f0) (n := m.f1) hw.1
          rw [if_pos rfl, if_pos (by simp [sh])]
          exact ih k (i + 1) (pl l w m.f0 m.f1) (by omega) (by omega) (by omega) (by omega) (pl_good hG hT c3 hw.1) (pl_small hw.1 hs ⟨by omega, by omega⟩)
        · rw [puts_back hG hT hw.1 c3, puts_back (sh_good hb hs hG) hT2 hw.1 (fun e => c3 ((sh_late b m.f0 l).1 e))]
          rw [if_pos rfl, if_pos (by simp [sh])]
          exact ih k (i + 1) l (by omega) (by omega) (by omega) (by omega) hG hs
theorem LeastLater (w : Int) (p : List S28) (b : Int) (hw : (Lit.int .u32 w).wf = true) (hp : ∀ x ∈ p, (Lit.int .i64 x.f0).wf = true ∧ (Lit.int .i64 x.f1).wf = true) (hb : (Lit.int .u32 b).wf = true) : ∃ k, sawtoothlaw08_LeastLater.f k w p b = some true := by
  refine ⟨1000, ?_⟩
  unfold sawtoothlaw08_LeastLater.f
  rw [awake_tells 1000 (by omega)]
  simp only [Option.bind_some]
  by_cases h : (p.length : Int) > 100
  · rw [if_pos h]; rfl
  · rw [if_neg h]
    exact later_loop w (u32_in hw) p (by omega) b (u32_in hb) p.length 1000 0 [] (Nat.zero_le _) rfl (by omega) (Nat.zero_le _) good_nil (fun x hx => by cases hx)

end Go.Proofs.Ytghhjkjdeohmiaa.Pure
