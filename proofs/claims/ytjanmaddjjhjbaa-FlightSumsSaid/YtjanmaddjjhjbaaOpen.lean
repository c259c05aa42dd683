/- How the arguments of the laws read: structs of whole numbers by value, slices of arrays of three whole numbers. -/
import Derived.Test.YtjanmaddjjhjbaaHpx0
import Derived.OpenShut
import Derived.Deep.Slices
import Derived.Deep.Fields
import Derived.ChangeSame
import Derived.Lib.SmallJoins
namespace Go.Proofs.Ytjanmaddjjhjbaa.Open
open Go.RowKit Go.Proofs.YtjanmaddjjhjbaaW.PrintWords Go.ChangeShapes Go.WideShapes Go.Deep Go.Proofs.Ytjanmaddjjhjbaa.Hp
set_option linter.unusedVariables false
section
variable {H : Type} {enc : TypeId × Value → H} {P : Program} {w : World} {base : Nat} {spare : Nat → Bool} {held : Bool}
/-- An argument that is a slice, read as a list: 'mk' reads one element. -/
theorem open_reads {α : Type} (d : Kd α) (Q : α → Prop) {t e : TypeId} (ht : P.underlying t = some (.slice e)) (hc : P.cellsOf e = d.sz)
    (mk : ∀ {n : Nat} {cs : List Value} {y : DataW H × List MemPlace}, DataW.trod enc P w base spare held n e cs = some y → ∃ x, d.K w x cs ∧ Q x)
    {a : Option Addr} {len cap : Nat} {dd : DataW H} {ps : List MemPlace} (h : DataW.Trod enc P w base spare held t (.slice a len cap) dd ps) :
    ∃ l : List α, l.length = len ∧ len ≤ cap ∧ cap ≤ maxLen ∧ Kd.C d w a l.length l ∧ ∀ x ∈ l, Q x := by
  obtain ⟨fuel, hf⟩ := h
  rcases open_slice ht hf with ⟨hcs, _⟩ | ⟨ad, n, c, m, q, D, Pl, hcs, _, hl, hm, hmm, _, hi⟩
  · simp [Value.cells] at hcs
    obtain ⟨rfl, rfl, rfl⟩ := hcs
    exact ⟨[], rfl, Nat.le_refl _, by unfold maxLen; omega, ⟨rfl, by simp, fun h => absurd h (by simp)⟩, fun x hx => by cases hx⟩
  · simp [Value.cells] at hcs
    obtain ⟨rfl, rfl, rfl⟩ := hcs
    have hle : len ≤ m := by rw [hmm]; split <;> omega
    obtain ⟨X, hX⟩ := choose_lt (α := Option α) (p := fun i x => i < len → ∃ z, x = some z ∧ ∃ cs, cs.length = d.sz ∧ d.K w z cs ∧ Q z ∧ ∀ (j : Nat) (u : Value), cs[j]? = some u → w.cell? (ad.add (i * d.sz + j)) = some u) (fun i him => by
      by_cases hlt : i < len
      · obtain ⟨cs, hcell, htr⟩ := hi i (by omega)
        obtain ⟨x, hK, hQ⟩ := mk htr
        rw [hc] at hcell
        obtain ⟨_, hlen, hat⟩ := World.cells?_some hcell
        refine ⟨some x, fun _ => ⟨x, rfl, cs, hlen, hK, hQ, fun j u hj => ?_⟩⟩
        have hjl := (List.getElem?_eq_some_iff.1 hj).1
        have := hat j (by omega)
        rw [hj, Go.Deep.add_add] at this
        exact this
      · exact ⟨none, fun h => absurd h hlt⟩ : ∀ i, i < m → _)
    obtain ⟨Y, hY⟩ : ∃ Y : Fin len → α, ∀ i : Fin len, X i.1 = some (Y i) ∧ ∃ cs, cs.length = d.sz ∧ d.K w (Y i) cs ∧ Q (Y i) ∧ ∀ (j : Nat) (u : Value), cs[j]? = some u → w.cell? (ad.add (i.1 * d.sz + j)) = some u := by
      refine ⟨fun i => Classical.choose (hX i.1 (by omega) i.2), fun i => ?_⟩
      exact Classical.choose_spec (hX i.1 (by omega) i.2)
    refine ⟨List.ofFn Y, by simp, hl, hm, ⟨rfl, by rw [List.length_ofFn]; unfold maxLen at hm; omega, fun _ => ⟨ad, rfl, fun j p hp => ?_⟩⟩, fun x hx => ?_⟩
    · rw [List.getElem?_ofFn] at hp
      split at hp
      · rename_i hj
        obtain rfl := Option.some.inj hp
        obtain ⟨_, cs, h1, h2, _, h4⟩ := hY ⟨j, hj⟩
        exact ⟨cs, h1, h2, h4⟩
      · cases hp
    · obtain ⟨i, rfl⟩ := (List.mem_ofFn).1 hx
      obtain ⟨_, cs, _, _, h3, _⟩ := hY i
      exact h3

theorem drop_take_one {cs : List Value} {n i : Nat} (hl : cs.length = n) (hi : i < n) : (cs.drop (i * 1)).take 1 = [cs[i]'(by omega)] := by
  rw [Nat.mul_one, List.drop_eq_getElem_cons (by omega)]
  rfl
/-- One element: an array of three whole numbers. -/
theorem mk_array3 {t e : TypeId} {k : IntKind} (he : P.underlying e = some (.array 3 t)) (ht : P.underlying t = some (.int k)) (hc : P.cellsOf e = 3) (h1 : P.cellsOf t = 1)
    {n : Nat} {cs : List Value} {y : DataW H × List MemPlace} (h : DataW.trod enc P w base spare held n e cs = some y) :
    ∃ a b c : Int, cs = [.int k a, .int k b, .int k c] ∧ (Lit.int k a).wf = true ∧ (Lit.int k b).wf = true ∧ (Lit.int k c).wf = true := by
  obtain ⟨xs, m, _, _, hl, hx, hi⟩ := DataW.trod_array he h
  rw [hc] at hl
  have one : ∀ i, (hi3 : i < 3) → ∃ a : Int, cs[i]'(by omega) = .int k a ∧ (Lit.int k a).wf = true := by
    intro i hi3
    have h2 := hi i hi3
    rw [h1, drop_take_one hl hi3] at h2
    rw [List.getElem?_eq_getElem (by omega)] at h2
    obtain ⟨a, e0, _, wa⟩ := DataW.trod_int ht h2
    simp at e0
    exact ⟨a, e0, wa⟩
  obtain ⟨a, ea, wa⟩ := one 0 (by omega)
  obtain ⟨b, eb, wb⟩ := one 1 (by omega)
  obtain ⟨c, ec, wc⟩ := one 2 (by omega)
  refine ⟨a, b, c, ?_, wa, wb, wc⟩
  refine List.ext_getElem (by simp [hl]) fun i h1 h2 => ?_
  match i, h1 with
  | 0, _ => exact ea
  | 1, _ => exact eb
  | 2, _ => exact ec
  | i + 3, h1 => exact absurd h1 (by omega)
end

section
variable {H : Type} {enc : TypeId × Value → H} {w : World} {base : Nat} {spare : Nat → Bool} {held : Bool}
theorem flight {r : Reach} {b0 : Nat} {v : Value} {d : DataW H} {p : List MemPlace} (hv : Value.okWide Try.prog w r b0 23 v) (h : DataW.Trod enc Try.prog w base spare held 23 v d p) :
    ∃ a b c : Int, v = .agg #[.int .i64 a, .int .i64 b, .int .i64 c] ∧ (Lit.int .i64 a).wf = true ∧ (Lit.int .i64 b).wf = true ∧ (Lit.int .i64 c).wf = true := by
  obtain ⟨c0, c1, c2, y0, y1, y2, m, rfl, _, _, hy0, hy1, hy2⟩ := Go.Joins.open_agg3 Try.underlying23 (by kernel_rfl) (by kernel_rfl) hv h
  obtain ⟨a, e0, _, wa⟩ := DataW.trod_int Try.underlying3 hy0
  obtain ⟨b, e1, _, wb⟩ := DataW.trod_int Try.underlying3 hy1
  obtain ⟨c, e2, _, wc⟩ := DataW.trod_int Try.underlying3 hy2
  simp at e0 e1 e2
  subst e0 e1 e2
  exact ⟨a, b, c, rfl, wa, wb, wc⟩
theorem rows38 {a : Option Addr} {len cap : Nat} {dd : DataW H} {ps : List MemPlace} (h : DataW.Trod enc Try.prog w base spare held 24 (.slice a len cap) dd ps) :
    ∃ l : List S38, l.length = len ∧ len ≤ cap ∧ cap ≤ maxLen ∧ Kd.C k38 w a l.length l ∧ ∀ x ∈ l, (Lit.int .i64 x.f0).wf = true ∧ (Lit.int .i64 x.f1).wf = true ∧ (Lit.int .i64 x.f2).wf = true :=
  open_reads k38 (fun x => (Lit.int .i64 x.f0).wf = true ∧ (Lit.int .i64 x.f1).wf = true ∧ (Lit.int .i64 x.f2).wf = true) Try.underlying24 (by kernel_rfl) (fun h => by
    obtain ⟨a, b, c, rfl, wa, wb, wc⟩ := mk_array3 Try.underlying38 Try.underlying3 (by kernel_rfl) (by kernel_rfl) h
    exact ⟨⟨a, b, c⟩, k38_mk _ _, wa, wb, wc⟩) h
theorem rows39 {a : Option Addr} {len cap : Nat} {dd : DataW H} {ps : List MemPlace} (h : DataW.Trod enc Try.prog w base spare held 37 (.slice a len cap) dd ps) :
    ∃ l : List S39, l.length = len ∧ len ≤ cap ∧ cap ≤ maxLen ∧ Kd.C k39 w a l.length l ∧ ∀ x ∈ l, (Lit.int .i32 x.f0).wf = true ∧ (Lit.int .i32 x.f1).wf = true ∧ (Lit.int .i32 x.f2).wf = true :=
  open_reads k39 (fun x => (Lit.int .i32 x.f0).wf = true ∧ (Lit.int .i32 x.f1).wf = true ∧ (Lit.int .i32 x.f2).wf = true) Try.underlying37 (by kernel_rfl) (fun h => by
    obtain ⟨a, b, c, rfl, wa, wb, wc⟩ := mk_array3 Try.underlying39 Try.underlying21 (by kernel_rfl) (by kernel_rfl) h
    exact ⟨⟨a, b, c⟩, k39_mk _ _, wa, wb, wc⟩) h
end
end Go.Proofs.Ytjanmaddjjhjbaa.Open
