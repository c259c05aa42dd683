/- What acts do, one behind the other. -/
import Derived.Test.YtjanmaddjjhjbaaPureTells
import Derived.Test.YtjanmaddjjhjbaaHpx4
import Derived.Test.YtjanmaddjjhjbaaHpx6
import Derived.Test.YtjanmaddjjhjbaaHpx7
import Derived.OpenShut
namespace Go.Proofs.Ytjanmaddjjhjbaa.Pure
open Go.RowKit Go.Proofs.Ytjanmaddjjhjbaa.Hp Go.Proofs.YtjanmaddjjhjbaaW.PrintWords Go.Proofs.YtjanmaddjjhjbaaW.PrintLast Go.Proofs.YtjanmaddjjhjbaaW.PrintMore

def actV (x y z a b c : Int) : Int × Int × Int × Int := if a = 0 then sendV x y z b c else if a = 1 then backV x y z b b else if a = 2 then backV x y z b 0 else (x, y, z, 201)
def RS (a : S38) : Prop := R a.f0 ∧ R a.f1 ∧ R a.f2
def doV : Int → Int → Int → List S38 → Int × Int × Int × List Int
  | x, y, z, [] => (x, y, z, [])
  | x, y, z, a :: l =>
    let r := actV x y z a.f0 a.f1 a.f2
    let q := doV r.1 r.2.1 r.2.2.1 l
    (q.1, q.2.1, q.2.2.1, r.2.2.2 :: q.2.2.2)
theorem actV_R {x y z a b c : Int} (hx : R x) (hy : R y) (hz : R z) : R (actV x y z a b c).1 ∧ R (actV x y z a b c).2.1 ∧ R (actV x y z a b c).2.2.1 := by
  unfold actV
  split
  · exact sendV_R hx hy hz
  · split
    · exact backV_R hx hy hz (.inl rfl)
    · split
      · exact backV_R hx hy hz (.inr rfl)
      · exact ⟨hx, hy, hz⟩
theorem act_tells (k : Nat) {x y z a b c : Int} (hx : R x) (hy : R y) (hz : R z) (hb : R b) (hc : R c) : flight_Do.act (k + 1) x y z a b c = some (actV x y z a b c) := by
  unfold flight_Do.act actV flight_Do_1.f flight_Do_2.f flight_Do_3.f
  rw [send_tells k x y z b c hx hy hz hb hc, ack_tells k x y z b hx hy hz hb, lose_tells k x y z b hx hy hz hb]
  simp only [Option.bind_some]
  split
  · rfl
  · split
    · rfl
    · split <;> rfl
theorem run_tells (k : Nat) (l : List S38) : ∀ {x y z : Int}, R x → R y → R z → (∀ a ∈ l, RS a) → flight_Do.run (k + 1) x y z l = some (doV x y z l) := by
  induction l with
  | nil => intro x y z _ _ _ _; rfl
  | cons a l ih =>
    intro x y z hx hy hz hl
    obtain ⟨_, h1, h2⟩ := hl a (by simp)
    obtain ⟨r1, r2, r3⟩ := actV_R (a := a.f0) (b := a.f1) (c := a.f2) hx hy hz
    simp only [flight_Do.run, doV]
    rw [act_tells k hx hy hz h1 h2]
    simp only [Option.bind_some]
    rw [ih r1 r2 r3 (fun b hb => hl b (by simp [hb]))]
    rfl
theorem do_tells (k : Nat) (l : List S38) {x y z : Int} (hx : R x) (hy : R y) (hz : R z) (hl : ∀ a ∈ l, RS a) (hn : l.length ≤ 1000) : flight_Do.f (k + 1) x y z l = some (doV x y z l) := by
  unfold flight_Do.f
  rw [if_pos (by omega), run_tells k l hx hy hz hl]
theorem doV_length (l : List S38) : ∀ x y z : Int, (doV x y z l).2.2.2.length = l.length := by
  induction l with
  | nil => intro x y z; rfl
  | cons a l ih => intro x y z; simp only [doV, List.length_cons, ih]
theorem doV_R (l : List S38) : ∀ {x y z : Int}, R x → R y → R z → R (doV x y z l).1 ∧ R (doV x y z l).2.1 ∧ R (doV x y z l).2.2.1 := by
  induction l with
  | nil => intro x y z hx hy hz; exact ⟨hx, hy, hz⟩
  | cons a l ih =>
    intro x y z hx hy hz
    obtain ⟨r1, r2, r3⟩ := actV_R (a := a.f0) (b := a.f1) (c := a.f2) hx hy hz
    simp only [doV]
    exact ih r1 r2 r3
theorem doV_append (l m : List S38) : ∀ x y z : Int, doV x y z (l ++ m) = (let a := doV x y z l; let b := doV a.1 a.2.1 a.2.2.1 m; (b.1, b.2.1, b.2.2.1, a.2.2.2 ++ b.2.2.2)) := by
  induction l with
  | nil => intro x y z; rfl
  | cons a l ih => intro x y z; simp only [List.cons_append, doV, ih]

end Go.Proofs.Ytjanmaddjjhjbaa.Pure
