/- Marks as lists: those that may be, and those with one more. Plain Lean. -/
import Derived.Test.YtghhjkjdeohmiaaHpx0
namespace Go.Proofs.Ytghhjkjdeohmiaa.Pure
open Go.RowKit Go.Proofs.YtghhjkjdeohmiaaW.PrintWords Go.Proofs.Ytghhjkjdeohmiaa.Hp
set_option linter.unusedVariables false
set_option linter.unusedSimpArgs false
/-- A time. -/
def T (a : Int) : Prop := 0 ≤ a ∧ a ≤ 1099511627776
instance (a : Int) : Decidable (T a) := by unfold T; infer_instance
def Rel (a b : S28) : Prop := a.f0 ≤ b.f0 ∧ a.f1 < b.f1
instance (a b : S28) : Decidable (Rel a b) := by unfold Rel; infer_instance
theorem Rel.trans {a b c : S28} (h : Rel a b) (g : Rel b c) : Rel a c := by unfold Rel at *; omega
/-- Marks that may be. -/
def Good (l : List S28) : Prop := (∀ m ∈ l, T m.f0) ∧ l.Pairwise Rel
def chk : Option S28 → List S28 → Bool
  | _, [] => true
  | none, m :: l => decide (T m.f0) && chk (some m) l
  | some q, m :: l => decide (T m.f0) && (decide (Rel q m) && chk (some m) l)
theorem chk_some : ∀ (l : List S28) (q : S28), chk (some q) l = true ↔ (∀ m ∈ l, T m.f0) ∧ (q :: l).Pairwise Rel
  | [], q => by simp [chk]
  | m :: l, q => by
    simp only [chk, Bool.and_eq_true, decide_eq_true_eq, chk_some l m, List.pairwise_cons, List.mem_cons]
    constructor
    · rintro ⟨h1, h2, h3, h4, h5⟩
      refine ⟨?_, ?_, h4, h5⟩
      · rintro x (rfl | hx)
        · exact h1
        · exact h3 x hx
      · rintro x (rfl | hx)
        · exact h2
        · exact h2.trans (h4 x hx)
    · rintro ⟨h1, h2, h4, h5⟩
      exact ⟨h1 m (.inl rfl), h2 m (.inl rfl), fun x hx => h1 x (.inr hx), h4, h5⟩
theorem chk_good (l : List S28) : chk none l = true ↔ Good l := by
  cases l with
  | nil => simp [chk, Good]
  | cons m l =>
    simp only [chk, Bool.and_eq_true, decide_eq_true_eq, chk_some l m, Good, List.mem_cons]
    constructor
    · rintro ⟨h1, h2, h3⟩
      refine ⟨?_, h3⟩
      rintro x (rfl | hx)
      · exact h1
      · exact h2 x hx
    · rintro ⟨h1, h3⟩
      exact ⟨h1 m (.inl rfl), fun x hx => h1 x (.inr hx), h3⟩
instance (l : List S28) : Decidable (Good l) := decidable_of_iff (chk none l = true) (chk_good l)
theorem chk_eq (l : List S28) : chk none l = decide (Good l) := by
  by_cases h : Good l
  · rw [decide_eq_true h]; exact (chk_good l).2 h
  · rw [decide_eq_false h]
    exact Bool.eq_false_iff.2 (fun e => h ((chk_good l).1 e))
theorem Good.sub {l l' : List S28} (h : Good l) (hs : l'.Sublist l) : Good l' := ⟨fun m hm => h.1 m (hs.subset hm), h.2.sublist hs⟩
theorem Good.snoc {l : List S28} (h : Good l) {m : S28} (hm : T m.f0) (hr : ∀ x ∈ l, Rel x m) : Good (l ++ [m]) := by
  refine ⟨fun x hx => ?_, ?_⟩
  · rcases List.mem_append.1 hx with hx | hx
    · exact h.1 x hx
    · rw [List.mem_singleton.1 hx]; exact hm
  · rw [List.pairwise_append]
    exact ⟨h.2, List.pairwise_singleton _ _, fun a ha b hb => by rw [List.mem_singleton.1 hb]; exact hr a ha⟩
theorem good_nil : Good [] := ⟨fun _ h => (by cases h), List.Pairwise.nil⟩

/-- Good marks with one more. -/
def pl (l : List S28) (w at_ n : Int) : List S28 := (l.takeWhile (fun m : S28 => decide (m.f1 < n)) ++ [(⟨at_, n⟩ : S28)]).dropWhile (fun m : S28 => decide (m.f0 < at_ - w))
def lastAt (l : List S28) : Option Int := l.getLast?.map (·.f0)
def Late (l : List S28) (at_ : Int) : Prop := ∀ a, lastAt l = some a → a ≤ at_
instance (l : List S28) (at_ : Int) : Decidable (Late l at_) := by
  unfold Late
  cases h : lastAt l with
  | none => exact .isTrue (fun a ha => by cases ha)
  | some b => exact decidable_of_iff (b ≤ at_) ⟨fun h a ha => by cases ha; exact h, fun h => h b rfl⟩
def puts (l : List S28) (w at_ n : Int) : List S28 × Int :=
  if Good l ∧ T at_ ∧ 0 ≤ w then (if Late l at_ then (pl l w at_ n, 0) else (l, 50)) else (l, 51)
theorem tw_sub (p : S28 → Bool) (l : List S28) : (l.takeWhile p).Sublist l := by
  have h := List.takeWhile_append_dropWhile (p := p) (l := l)
  conv => rhs; rw [← h]
  exact List.sublist_append_left _ _
theorem dw_sub (p : S28 → Bool) (l : List S28) : (l.dropWhile p).Sublist l := by
  have h := List.takeWhile_append_dropWhile (p := p) (l := l)
  conv => rhs; rw [← h]
  exact List.sublist_append_right _ _
theorem tw_all (p : S28 → Bool) : ∀ (l : List S28), ∀ x ∈ l.takeWhile p, p x = true
  | [], x, h => by cases h
  | m :: l, x, h => by
    rw [List.takeWhile_cons] at h
    split at h
    · rename_i hp
      rcases List.mem_cons.1 h with rfl | h
      · exact hp
      · exact tw_all p l x h
    · cases h
theorem dw_snoc (p : S28 → Bool) (m : S28) (hm : p m = false) : ∀ (l : List S28), (l ++ [m]).dropWhile p = l.dropWhile p ++ [m]
  | [] => by simp [List.dropWhile, hm]
  | x :: l => by
    rw [List.cons_append, List.dropWhile_cons, List.dropWhile_cons]
    split
    · exact dw_snoc p m hm l
    · rfl
/-- All are at a time up to the last one's. -/
theorem good_last {l : List S28} (h : Good l) {at_ : Int} (hl : Late l at_) : ∀ x ∈ l, x.f0 ≤ at_ := by
  intro x hx
  rcases List.eq_nil_or_concat l with rfl | ⟨l', b, rfl⟩
  · cases hx
  · have hb : b.f0 ≤ at_ := hl b.f0 (by simp [lastAt])
    rw [List.concat_eq_append] at *
    rcases List.mem_append.1 hx with hx | hx
    · have := (List.pairwise_append.1 h.2).2.2 x hx b (List.mem_singleton.2 rfl)
      unfold Rel at this
      omega
    · rw [List.mem_singleton.1 hx]; exact hb
theorem pl_form {l : List S28} {w at_ n : Int} (hw : 0 ≤ w) : pl l w at_ n = (l.takeWhile (fun m : S28 => decide (m.f1 < n))).dropWhile (fun m : S28 => decide (m.f0 < at_ - w)) ++ [⟨at_, n⟩] :=
  by
  unfold pl
  exact dw_snoc (fun m : S28 => decide (m.f0 < at_ - w)) ⟨at_, n⟩ (decide_eq_false (by show ¬ at_ < at_ - w; omega)) _
theorem pl_good {l : List S28} {w at_ n : Int} (h : Good l) (hT : T at_) (hl : Late l at_) (hw : 0 ≤ w) : Good (pl l w at_ n) := by
  rw [pl_form hw]
  refine Good.snoc (h.sub ((dw_sub _ _).trans (tw_sub _ _))) hT (fun x hx => ?_)
  have h1 := (dw_sub _ _).subset hx
  have h2 := tw_all _ _ x h1
  have h3 := good_last h hl x ((tw_sub _ _).subset h1)
  exact ⟨h3, by simpa using h2⟩
theorem pl_length {l : List S28} {w at_ n : Int} (hw : 0 ≤ w) : (pl l w at_ n).length ≤ l.length + 1 := by
  rw [pl_form hw, List.length_append]
  have := ((dw_sub (fun m : S28 => decide (m.f0 < at_ - w)) _).trans (tw_sub (fun m : S28 => decide (m.f1 < n)) l)).length_le
  simp
  omega
theorem pl_last {l : List S28} {w at_ n : Int} (hw : 0 ≤ w) : lastAt (pl l w at_ n) = some at_ := by
  rw [pl_form hw]; simp [lastAt]

end Go.Proofs.Ytghhjkjdeohmiaa.Pure
