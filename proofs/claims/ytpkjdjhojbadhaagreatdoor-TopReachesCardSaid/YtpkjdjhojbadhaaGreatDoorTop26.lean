/- engine.Do, of a send and of an ack, of a connection in slow start. -/
import Derived.Test.YtpkjdjhojbadhaaGreatDoorTop25
import Derived.Test.YtpkjdjhojbadhaaGreatDoorTop20
import Derived.Test.YtpkjdjhojbadhaaGreatDoorTop17
import Derived.Test.YtpkjdjhojbadhaaGreatDoorTop22
set_option linter.unusedVariables false
set_option linter.unusedSimpArgs false
namespace Go.Proofs.YtpkjdjhojbadhaaGreatDoor.Hp
open Go.RowKit Go.Proofs.YtpkjdjhojbadhaaGreatDoorW.PrintWords Go.Proofs.YtpkjdjhojbadhaaGreatDoorW.PrintLast Go.Proofs.YtpkjdjhojbadhaaGreatDoorW.PrintMore
attribute [local go_sem] max2_int min2_int max_two min_two max_three min_three max_four min_four
/-- The cells of a connection in slow start. -/
def stv (seg mx fst grain lst great burst now last win sent told out : Int) (has : Bool) (mean far id en hl bat have_ : Int) (v : Value) : Array Value :=
  #[.int .i64 (seg), .int .i64 (mx), .int .i64 (fst), .int .i64 (grain), .int .i64 (lst), .int .i64 (great), .int .i64 (burst), .int .i64 (now), .int .i64 (last), .int .i64 (win), .int .i64 68719476736, .int .i64 0, .int .i64 (sent), .int .i64 (told), .int .i64 (out), .bool has, .int .i64 (mean), .int .i64 (far), v, .int .i64 (id), .int .i64 (en), .int .i64 (hl), .int .i64 0, .int .i64 0, .bool false, .bool false, .int .i64 0, .int .i64 0, .bool false, .int .i64 0, .int .i64 0, .int .i64 0, .int .i64 0, .int .i64 0, .int .i64 0, .int .i64 0, .int .i64 (bat), .int .i64 (have_), .bool false]
theorem tw1 (kk seg : Int) : 2 * (kk * 65536) * (seg * 1000000) = kk * seg * 131072000000 := by grind
theorem tw2 (kk seg : Int) : kk * 65536 * seg = kk * seg * 65536 := by grind
theorem tw3 (kk seg burst : Int) (h1 : 1 ≤ seg) (h2 : seg ≤ 9000) (h3 : 2 ≤ kk) (h4 : kk ≤ burst) (h5 : burst ≤ 1000) : kk * seg ≤ burst * seg ∧ burst * seg ≤ 9000000 ∧ 2 ≤ kk * seg := by
  have a : kk * seg ≤ burst * seg := Int.mul_le_mul_of_nonneg_right h4 (by omega)
  have b : burst * seg ≤ 1000 * seg := Int.mul_le_mul_of_nonneg_right h5 (by omega)
  have c : 2 * seg ≤ kk * seg := Int.mul_le_mul_of_nonneg_right h3 (by omega)
  omega
theorem okCfg.bounds {seg mx fst grain lst great burst : Int} (h : okCfg seg mx fst grain lst great burst) :
    1 ≤ seg ∧ seg ≤ 9000 ∧ 4 ≤ mx ∧ mx ≤ 1048576 ∧ 2 ≤ fst ∧ fst ≤ mx ∧ 1 ≤ grain ∧ grain ≤ 1000000 ∧ 1 ≤ lst ∧ lst ≤ great ∧ 1 ≤ great ∧ great ≤ 1099511627776 ∧ 1 ≤ burst ∧ burst ≤ 1000 := by
  unfold okCfg nums good at h
  simp only [List.mem_cons, List.not_mem_nil, or_false, forall_eq_or_imp, forall_eq] at h
  omega
set_option maxHeartbeats 1600000 in
set_option maxRecDepth 100000 in
theorem doSend.calls (seg mx fst grain lst great burst last kk sent : Int) (has : Bool) (mean far : Int) (p : Option Addr) (sn sc : Nat) (id en hl at_ : Int) (o : Option Int) (w : World) (hok : okCfg seg mx fst grain lst great burst) (hmb : mx ≤ burst) (hgr : 100000 ≤ great) (k2 : 2 ≤ kk) (k3 : kk ≤ mx) (l0 : 0 ≤ last) (l1 : last ≤ at_) (l2 : at_ - last ≤ 100000) (q0 : at_ ≤ 1000000000) (s0 : 0 ≤ sent) (s1 : sent ≤ 1000000000000) (hr : (has = false ∧ mean = 0 ∧ far = 0) ∨ (has = true ∧ mean = 800000 ∧ 0 ≤ far ∧ far ≤ 4294967296)) (i0 : 0 ≤ id) (e0 : 0 ≤ en) (m0 : 0 ≤ hl) (m1 : hl ≤ 1073741824) (hs : Slc w (.slice p sn sc) o) (ho : ∀ x, o = some x → 0 ≤ x ∧ x ≤ at_) :
    Calls Tryz.prog 10 #[.agg (stv seg mx fst grain lst great burst at_ last (kk * 65536) sent sent 0 has mean far id en hl at_ (burst * seg * 1000000) (.slice p sn sc)), .agg #[.int .i64 6, .int .i64 at_, .int .i64 (kk * seg), .int .i64 0]] w fun e w' => ∃ p m c o', e = .returned (.tuple #[.agg (stv seg mx fst grain lst great burst at_ at_ (kk * 65536) (sent + kk * seg) sent (kk * seg) has mean far id en hl at_ (burst * seg * 1000000 - kk * seg * 1000000) (.slice p m c)), .int .i64 0]) ∧ Slc w' (.slice p m c) o' ∧ (∀ x, o' = some x → 0 ≤ x ∧ x ≤ at_) ∧ Below w.heap.size w w' := by
  obtain ⟨c0, c1, c2, c3, c4, c5, c6, c7, c8, c9, c10, c11, c12, c13⟩ := hok.bounds
  obtain ⟨t1, t2, t3⟩ := tw3 kk seg burst c0 c1 k2 (by omega) c13
  have t4 := tw1 kk seg
  have t5 := tw2 kk seg
  have q20 : 2 * (kk * 65536) * (seg * 1000000) / 6553600000 = 20 * (kk * seg) := by omega
  refine doG.calls (stv seg mx fst grain lst great burst at_ last (kk * 65536) sent sent 0 has mean far id en hl at_ (burst * seg * 1000000) (.slice p sn sc)) (fun v => stv seg mx fst grain lst great burst at_ last (kk * 65536) sent sent 0 has mean far id en hl at_ (burst * seg * 1000000) v) (fun v => stv seg mx fst grain lst great burst at_ last (kk * 65536) sent sent 0 has mean far id en hl at_ (burst * seg * 1000000) v) (fun v => stv seg mx fst grain lst great burst at_ at_ (kk * 65536) (sent + kk * seg) sent (kk * seg) has mean far id en hl at_ (burst * seg * 1000000 - kk * seg * 1000000) v) 6 at_ (kk * seg) 0 at_ at_ (burst * seg * 1000000) (20 * (kk * seg)) (burst * seg) (burst * seg * 1000000) 24 0 o w
    rfl (fun _ => rfl) (fun _ => rfl) (fun _ _ _ => by simp [stv, Value.oneCell']) (fun _ _ _ => by simp [stv, Value.oneCell']) rfl (fun _ => rfl) (fun _ => rfl) (fun _ => rfl) (by omega) (by omega) (Int.le_refl _)
    (fun W hW => ?_) (fun W => ?_) (fun W hW => ?_) ho (fun g v W hG => ?_) (fun g v W hG => ?_) (fun W => ?_) rfl (fun _ _ => rfl) (fun g v W hG hm => ?_)
  · exact checkS.calls seg mx fst grain lst great burst at_ last (kk * 65536) sent sent 0 has mean far p sn sc id en hl at_ (burst * seg * 1000000) o W hok (by omega) (by omega) (by omega) l0 l1 (by omega) (by omega) (by omega) s0 (by omega) (by omega) (by omega) hr i0 e0 m0 m1 (by omega) (by omega) (by omega) (by omega) (hs.below hW) ho
  · exact evSend.calls at_ (kk * seg) W (by omega) (by omega) (by omega) (by omega)
  · exact ownS.calls seg mx fst grain lst great burst at_ last (kk * 65536) sent sent 0 has mean far p sn sc id en hl at_ (burst * seg * 1000000) o W (hs.below hW) (by omega)
  · exact rateL.calls g seg mx fst grain lst great burst at_ last (kk * 65536) sent sent 0 has mean far v id en hl at_ (burst * seg * 1000000) (20 * (kk * seg)) W (by omega) (by omega) c0 c1 (by omega) (by omega) (by omega) hr hG
  · exact burstL.calls g seg mx fst grain lst great burst at_ last (kk * 65536) sent sent 0 has mean far v id en hl at_ (burst * seg * 1000000) W (by omega) (by omega) hG
  · exact fill0.calls at_ (burst * seg * 1000000) (20 * (kk * seg)) (burst * seg) W (by omega) (by omega) (by omega) (by omega) (by omega) (by omega) (by omega)
  · refine (sendL.calls g seg mx fst grain lst great burst at_ last (kk * 65536) sent has mean far v id en hl at_ (burst * seg * 1000000) at_ (kk * seg) W l0 l1 (by omega) (by omega) c6 c7 c8 c9 hgr c11 (by omega) (by omega) c0 c1 (by omega) (by omega) (by omega) (by omega) s0 (by omega) (by omega) (by omega) (by omega) (by omega) hr hG).mono ?_
    rintro e_ w' ⟨rfl, hb, hq⟩
    exact ⟨rfl, v, hb, hm.grow hq, hq⟩
/-- The window of the next turn, in segments. -/
def nxt (kk mx : Int) : Int := if mx < kk + (if 8 < kk then 8 else kk) then mx else kk + (if 8 < kk then 8 else kk)
theorem nxt_win (kk mx : Int) : ∃ d y : Int, d = (if 524288 < kk * 65536 then 524288 else kk * 65536) ∧ y = kk * 65536 + d ∧ nxt kk mx * 65536 = (if mx * 65536 < y then mx * 65536 else y) := by
  refine ⟨_, _, rfl, rfl, ?_⟩
  unfold nxt
  split <;> split <;> (split <;> try split) <;> omega
theorem segs_back (kk seg : Int) (h : 1 ≤ seg) : kk * seg * 65536 / seg = kk * 65536 := by
  rw [show kk * seg * 65536 = kk * 65536 * seg from by grind]
  exact Int.mul_ediv_cancel _ (by omega)
set_option maxHeartbeats 1600000 in
set_option maxRecDepth 100000 in
theorem doAck.calls (seg mx fst grain lst great burst kk s0 : Int) (has : Bool) (mean far f2 : Int) (p : Option Addr) (sn sc : Nat) (id en hl at_ : Int) (o : Option Int) (w : World) (hok : okCfg seg mx fst grain lst great burst) (hmb : mx ≤ burst) (hgr : 100000 ≤ great) (k2 : 2 ≤ kk) (k3 : kk ≤ mx) (l0 : 0 ≤ at_) (q0 : at_ ≤ 1000000000) (h0 : 0 ≤ s0) (h1 : s0 ≤ 1000000000000) (hr : (has = false ∧ mean = 0 ∧ far = 0 ∧ f2 = 200000) ∨ (has = true ∧ mean = 800000 ∧ 0 ≤ far ∧ far ≤ 4294967296 ∧ f2 = far - far / 4)) (i0 : 0 ≤ id) (i1 : id < 1000000) (e0 : 0 ≤ en) (e1 : en ≤ s0) (m0 : 0 ≤ hl) (m1 : hl ≤ 1073741824) (hs : Slc w (.slice p sn sc) o) (ho : ∀ x, o = some x → 0 ≤ x ∧ x ≤ at_) :
    Calls Tryz.prog 10 #[.agg (stv seg mx fst grain lst great burst at_ at_ (kk * 65536) (s0 + kk * seg) s0 (kk * seg) has mean far id en hl at_ (burst * seg * 1000000 - kk * seg * 1000000) (.slice p sn sc)), .agg #[.int .i64 1, .int .i64 (at_ + 100000), .int .i64 (kk * seg), .int .i64 100000]] w fun e w' => ∃ p m c o', e = .returned (.tuple #[.agg (stv seg mx fst grain lst great burst (at_ + 100000) at_ (nxt kk mx * 65536) (s0 + kk * seg) (s0 + kk * seg) 0 true 800000 f2 (id + 1) (s0 + kk * seg) 100000 (at_ + 100000) (burst * seg * 1000000) (.slice p m c)), .int .i64 0]) ∧ Slc w' (.slice p m c) o' ∧ (∀ x, o' = some x → 0 ≤ x ∧ x ≤ at_ + 100000) ∧ Below w.heap.size w w' := by
  obtain ⟨c0, c1, c2, c3, c4, c5, c6, c7, c8, c9, c10, c11, c12, c13⟩ := hok.bounds
  obtain ⟨t1, t2, t3⟩ := tw3 kk seg burst c0 c1 k2 (by omega) c13
  have t4 := tw1 kk seg
  have t5 := tw2 kk seg
  have q20 : 2 * (kk * 65536) * (seg * 1000000) / 6553600000 = 20 * (kk * seg) := by omega
  have hr2 : (has = false ∧ mean = 0 ∧ far = 0) ∨ (has = true ∧ mean = 800000 ∧ 0 ≤ far ∧ far ≤ 4294967296) := by
    rcases hr with ⟨a, b, c, _⟩ | ⟨a, b, c, d, _⟩
    · exact .inl ⟨a, b, c⟩
    · exact .inr ⟨a, b, c, d⟩
  refine doG.calls (stv seg mx fst grain lst great burst at_ at_ (kk * 65536) (s0 + kk * seg) s0 (kk * seg) has mean far id en hl at_ (burst * seg * 1000000 - kk * seg * 1000000) (.slice p sn sc)) (fun v => stv seg mx fst grain lst great burst at_ at_ (kk * 65536) (s0 + kk * seg) s0 (kk * seg) has mean far id en hl at_ (burst * seg * 1000000 - kk * seg * 1000000) v) (fun v => stv seg mx fst grain lst great burst (at_ + 100000) at_ (kk * 65536) (s0 + kk * seg) s0 (kk * seg) has mean far id en hl (at_ + 100000) (burst * seg * 1000000) v) (fun v => stv seg mx fst grain lst great burst (at_ + 100000) at_ (nxt kk mx * 65536) (s0 + kk * seg) (s0 + kk * seg) 0 true 800000 f2 (id + 1) (s0 + kk * seg) 100000 (at_ + 100000) (burst * seg * 1000000) v) 1 (at_ + 100000) (kk * seg) 100000 at_ at_ (burst * seg * 1000000 - kk * seg * 1000000) (20 * (kk * seg)) (burst * seg) (burst * seg * 1000000) 25 1 o w
    rfl (fun _ => rfl) (fun _ => rfl) (fun _ _ _ => by simp [stv, Value.oneCell']) (fun _ _ _ => by simp [stv, Value.oneCell']) rfl (fun _ => rfl) (fun _ => rfl) (fun _ => rfl) (by omega) (by omega) (by omega)
    (fun W hW => ?_) (fun W => ?_) (fun W hW => ?_) (fun x hx => ⟨(ho x hx).1, by have := (ho x hx).2; omega⟩) (fun g v W hG => ?_) (fun g v W hG => ?_) (fun W => ?_) rfl (fun _ _ => rfl) (fun g v W hG hm => ?_)
  · exact checkS.calls seg mx fst grain lst great burst at_ at_ (kk * 65536) (s0 + kk * seg) s0 (kk * seg) has mean far p sn sc id en hl at_ (burst * seg * 1000000 - kk * seg * 1000000) o W hok (by omega) (by omega) (by omega) l0 (Int.le_refl _) (by omega) (by omega) (by omega) h0 (by omega) (by omega) (by omega) hr2 i0 e0 m0 m1 (by omega) (by omega) (by omega) (by omega) (hs.below hW) ho
  · exact evAck.calls (at_ + 100000) (kk * seg) W (by omega) (by omega) (by omega) (by omega)
  · exact ownS.calls seg mx fst grain lst great burst at_ at_ (kk * 65536) (s0 + kk * seg) s0 (kk * seg) has mean far p sn sc id en hl at_ (burst * seg * 1000000 - kk * seg * 1000000) o W (hs.below hW) (by omega)
  · exact rateL.calls g seg mx fst grain lst great burst at_ at_ (kk * 65536) (s0 + kk * seg) s0 (kk * seg) has mean far v id en hl at_ (burst * seg * 1000000 - kk * seg * 1000000) (20 * (kk * seg)) W (by omega) (by omega) c0 c1 (by omega) (by omega) (by omega) hr2 hG
  · exact burstL.calls g seg mx fst grain lst great burst at_ at_ (kk * 65536) (s0 + kk * seg) s0 (kk * seg) has mean far v id en hl at_ (burst * seg * 1000000 - kk * seg * 1000000) W (by omega) (by omega) hG
  · exact fill1.calls at_ (burst * seg * 1000000 - kk * seg * 1000000) (20 * (kk * seg)) (burst * seg) W (by omega) (by omega) (by omega) (by omega) (by omega) (by omega) (by omega) (by omega) (by omega)
  · refine (ackL.calls g seg mx fst grain lst great burst (at_ + 100000) at_ (kk * 65536) s0 has mean far v id en hl (at_ + 100000) (burst * seg * 1000000) (at_ + 100000) (kk * seg) f2 (nxt kk mx * 65536) W (by omega) (by omega) (by omega) (by omega) m0 m1 hr hm (by omega) (by omega) (segs_back kk seg c0) h0 (by omega) c0 c1 i0 i1 e0 (by omega) (by omega) (by omega) (by omega) (by omega) (nxt_win kk mx) hG).mono ?_
    rintro e_ w' ⟨rfl, v', hb, hm', hq⟩
    exact ⟨rfl, v', hb, .inr ⟨at_ + 100000, by omega, Int.le_refl _, hm'⟩, hq⟩

end Go.Proofs.YtpkjdjhojbadhaaGreatDoor.Hp
