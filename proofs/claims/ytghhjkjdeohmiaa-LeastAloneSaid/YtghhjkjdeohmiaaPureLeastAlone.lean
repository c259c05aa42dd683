/- The plain law LeastAlone. -/
import Derived.Test.YtghhjkjdeohmiaaPureTold
import Derived.Test.YtghhjkjdeohmiaaHpx22
namespace Go.Proofs.Ytghhjkjdeohmiaa.Pure
open Go.RowKit Go.Proofs.YtghhjkjdeohmiaaW.PrintWords Go.Proofs.Ytghhjkjdeohmiaa.Hp
set_option linter.unusedVariables false
set_option linter.unusedSimpArgs false
theorem all_at {l : List S28} {at_ n : Int} (h : Good l) (hT : T at_) (hl : Late l at_) : ∀ x ∈ pl l 0 at_ n, x.f0 = at_ := by
  intro x hx
  have hf : x.f0 ≤ at_ := good_last (pl_good h hT hl (Int.le_refl 0)) (by intro a ha; rw [pl_last (Int.le_refl 0)] at ha; cases ha; exact Int.le_refl _) x hx
  have hg : at_ ≤ x.f0 := by
    have hG := pl_good (n := n) h hT hl (Int.le_refl 0)
    cases e : pl l 0 at_ n with
    | nil => rw [e] at hx; cases hx
    | cons m r =>
      have h1 : at_ - 0 ≤ m.f0 := by unfold pl at e; exact dw_head _ _ m r e
      rw [e] at hx hG
      rcases List.mem_cons.1 hx with rfl | hx
      · omega
      · have := ((List.pairwise_cons.1 hG.2).1 x hx).1
        omega
  omega
/-- What holds behind some numbers: 'a' of a window of 0, 'b' of one as long as all time. -/
structure Two (a b all : List S28) : Prop where
  ga : Good a
  eq : ∀ x ∈ a, some x.f0 = lastAt all
  la : lastAt a = lastAt all
  inv : Inv ((lastAt all).getD 0 - 1099511627776) b all
theorem alone_l1 (a b all : List S28) (h : Two a b all) (ha : a.length ≤ 200) (hb : b.length ≤ 200) (hal : all.length ≤ 200) (hT : ∀ x ∈ all, T x.f0) (d : Nat) : ∀ (k i : Nat), i ≤ a.length → a.length - i = d → d + 300 < k → sawtoothlaw08_LeastAlone.l1 k true a b all (i : Int) = some true := by
  have he : a = [] ↔ all = [] := by
    constructor
    · rintro rfl
      rcases List.eq_nil_or_concat all with rfl | ⟨l', q, rfl⟩
      · rfl
      · have := h.la; rw [List.concat_eq_append, last_snoc] at this; cases this
    · rintro rfl
      rcases List.eq_nil_or_concat a with rfl | ⟨l', q, rfl⟩
      · rfl
      · have := h.la; rw [List.concat_eq_append, last_snoc] at this; cases this
  have hlt := lastT h.inv
  unfold T at hlt
  induction d with
  | zero =>
    intro k i h1 hd hk
    obtain ⟨k, rfl⟩ : ∃ m, k = m + 1 := ⟨k - 1, by omega⟩
    simp only [sawtoothlaw08_LeastAlone.l1]
    rw [if_neg (by omega), of_tells b (by omega) k (by omega), least_tells _ _ all (by omega) k (by omega)]
    simp only [Option.bind_some]
    have e : leastR 0 1099511627776 0 false all = ofG b := by
      rw [leastR_low _ _ all 0 false (fun x hx => (hT x hx).2) (fun _ => rfl)]
      unfold ofG
      rw [if_pos h.inv.good]
      have h0 := h.inv.same 0 (by omega)
      simp only [Bool.false_eq_true, if_false]
      rw [← h0]
      cases b with
      | nil => rfl
      | cons m r =>
        simp only [fst, ofV]
        rw [if_pos (h.inv.good.1 m List.mem_cons_self).1]
        rfl
    rw [e]
    simp only [if_true, beq_self_eq_true]
    by_cases c : a = []
    · rw [he.1 c, c]; rfl
    · have c2 : ¬ all = [] := fun e => c (he.2 e)
      have h3 := List.length_pos_iff.2 c
      have h4 := List.length_pos_iff.2 c2
      rw [if_pos (by omega), if_pos (by omega)]
  | succ d ih =>
    intro k i h1 hd hk
    obtain ⟨k, rfl⟩ : ∃ m, k = m + 1 := ⟨k - 1, by omega⟩
    have hwr : wrap64 ((i : Int) + 1) = ((i + 1 : Nat) : Int) := by rw [wrap64_id (by omega)]; omega
    have c : ¬ a = [] := fun e => by rw [e] at hd; simp at hd
    have c2 : ¬ all = [] := fun e => c (he.2 e)
    have h4 := List.length_pos_iff.2 c2
    have hm : rd_T28 a i ∈ a := by
      have h := rd_drop a i (by omega)
      exact List.mem_of_mem_drop (i := i) (by rw [h]; exact List.mem_cons_self)
    have hq := h.eq _ hm
    rw [last_at all h4] at hq
    simp only [sawtoothlaw08_LeastAlone.l1]
    rw [if_pos (by omega), if_neg (by omega), if_pos (by omega), wrap64_id (n := (all.length : Int) - 1) (by omega), if_pos (by omega), if_pos (by omega), if_pos (Option.some.inj hq), hwr]
    exact ih k (i + 1) (by omega) (by omega) (by omega)
theorem Two.nil : Two [] [] [] := ⟨good_nil, fun x hx => (by cases hx), rfl, Inv.nil _⟩
theorem Two.late {a b all : List S28} (h : Two a b all) (at_ : Int) : Late a at_ ↔ Late b at_ := by
  unfold Late
  rw [h.la, ← h.inv.last]
theorem Two.put {a b all : List S28} (h : Two a b all) {at_ n : Int} (hT : T at_) (hl : Late a at_) : Two (pl a 0 at_ n) (pl b 1099511627776 at_ n) (all ++ [⟨at_, n⟩]) := by
  refine ⟨pl_good h.ga hT hl (Int.le_refl 0), fun x hx => ?_, ?_, ?_⟩
  · rw [last_snoc, all_at h.ga hT hl x hx]
  · rw [pl_last (Int.le_refl 0), last_snoc]
  · rw [last_snoc]
    have hb := (h.late at_).1 hl
    refine h.inv.put hT (by decide) hb ?_
    rcases List.eq_nil_or_concat b with hb0 | ⟨l', q, hb0⟩
    · exact .inr hb0
    · left
      have h3 := hb q.f0 (by rw [hb0, List.concat_eq_append, last_snoc])
      rw [← h.inv.last, hb0, List.concat_eq_append, last_snoc]
      simp only [Option.getD_some]
      omega
theorem alone_loop (p : List S28) (hp : p.length ≤ 100) (d : Nat) : ∀ (k i : Nat) (a b all : List S28), i ≤ p.length → p.length - i = d → d + 700 < k → a.length ≤ i → b.length ≤ i → all.length ≤ i → (∀ x ∈ all, T x.f0) → Two a b all →
    sawtoothlaw08_LeastAlone.l0 k p true a b all (i : Int) = some true := by
  induction d with
  | zero =>
    intro k i a b all h1 hd hk ha hb hal hT h
    obtain ⟨k, rfl⟩ : ∃ m, k = m + 1 := ⟨k - 1, by omega⟩
    simp only [sawtoothlaw08_LeastAlone.l0]
    rw [if_neg (by omega)]
    exact alone_l1 a b all h (by omega) (by omega) (by omega) hT a.length k 0 (Nat.zero_le _) rfl (by omega)
  | succ d ih =>
    intro k i a b all h1 hd hk ha hb hal hT h
    obtain ⟨k, rfl⟩ : ∃ m, k = m + 1 := ⟨k - 1, by omega⟩
    have hwr : wrap64 ((i : Int) + 1) = ((i + 1 : Nat) : Int) := by rw [wrap64_id (by omega)]; omega
    simp only [sawtoothlaw08_LeastAlone.l0]
    rw [if_pos (by omega), if_pos (by omega), put_tells a (by omega) 0 _ _ (by omega) k (by omega), put_tells b (by omega) 1099511627776 _ _ (by omega) k (by omega), hwr]
    simp only [Option.bind_some]
    generalize rd_T28 p (i : Int) = m
    by_cases c0 : T m.f0
    · by_cases c2 : Late a m.f0
      · rw [puts_ok h.ga c0 (Int.le_refl 0) c2, puts_ok h.inv.good c0 (by decide) ((h.late _).1 c2)]
        simp only [if_true]
        rw [if_pos (by omega)]
        have la := pl_length (l := a) (at_ := m.f0) (n := m.f1) (Int.le_refl 0)
        have lb := pl_length (l := b) (at_ := m.f0) (n := m.f1) (w := 1099511627776) (by decide)
        exact ih k (i + 1) _ _ _ (by omega) (by omega) (by omega) (by omega) (by omega) (by simp; omega) (fun x hx => by
          rcases List.mem_append.1 hx with hx | hx
          · exact hT x hx
          · rw [List.mem_singleton.1 hx]; exact c0) (h.put c0 c2)
      · rw [puts_back h.ga c0 (Int.le_refl 0) c2, puts_back h.inv.good c0 (by decide) (fun e => c2 ((h.late _).2 e))]
        simp only [if_true]
        rw [if_neg (by simp)]
        exact ih k (i + 1) a b all (by omega) (by omega) (by omega) (by omega) (by omega) (by omega) hT h
    · rw [puts_time (fun e => c0 e.2.1), puts_time (fun e => c0 e.2.1)]
      simp only [if_true]
      rw [if_neg (by simp)]
      exact ih k (i + 1) a b all (by omega) (by omega) (by omega) (by omega) (by omega) (by omega) hT h
theorem LeastAlone (p : List S28) (hp : ∀ x ∈ p, (Lit.int .i64 x.f0).wf = true ∧ (Lit.int .i64 x.f1).wf = true) : ∃ k, sawtoothlaw08_LeastAlone.f k p = some true := by
  refine ⟨1000, ?_⟩
  unfold sawtoothlaw08_LeastAlone.f
  rw [awake_tells 1000 (by omega)]
  simp only [Option.bind_some]
  by_cases h : (p.length : Int) > 100
  · rw [if_pos h]; rfl
  · rw [if_neg h]
    exact alone_loop p (by omega) p.length 1000 0 [] [] [] (Nat.zero_le _) rfl (by omega) (Nat.zero_le _) (Nat.zero_le _) (Nat.zero_le _) (fun x hx => by cases hx) Two.nil

end Go.Proofs.Ytghhjkjdeohmiaa.Pure
