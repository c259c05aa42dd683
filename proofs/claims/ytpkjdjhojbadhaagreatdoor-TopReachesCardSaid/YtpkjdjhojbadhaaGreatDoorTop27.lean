/- 'turn': all that the window lets is sent, and told of: the window is the next one. -/
import Derived.Test.YtpkjdjhojbadhaaGreatDoorTop26
set_option linter.unusedVariables false
set_option linter.unusedSimpArgs false
namespace Go.Proofs.YtpkjdjhojbadhaaGreatDoor.Hp
open Go.RowKit Go.Proofs.YtpkjdjhojbadhaaGreatDoorW.PrintWords Go.Proofs.YtpkjdjhojbadhaaGreatDoorW.PrintLast Go.Proofs.YtpkjdjhojbadhaaGreatDoorW.PrintMore
attribute [local go_sem] max2_int min2_int max_two min_two max_three min_three max_four min_four
/-- What 'turn' has made of its own. -/
structure TuF (w W : World) (cs zs : Array Value) : Prop where
  b0 : W.heap[w.heap.size]? = some (.cells cs 39 (0, 0))
  b1 : W.heap[w.heap.size + 1]? = some (.cells zs 39 (0, 0))
  hb : Below w.heap.size w W
section
variable {w W W' : World} {cs zs : Array Value}
theorem TuF.below (h : TuF w W cs zs) (k : Below W.heap.size W W') : TuF w W' cs zs := ⟨blk_below h.b0 k, blk_below h.b1 k, below_step h.hb k⟩
theorem TuF.alloc (h : TuF w W cs zs) (o : Obj) : TuF w (W.alloc o) cs zs := h.below (below_alloc (Below.refl _ _) _)
theorem TuF.row (h : TuF w W cs zs) {g : Nat} (hg : w.heap.size + 1 < g) (c : Array Value) : TuF w (W.setRow g c) cs zs := ⟨blk_row h.b0 (by omega) c, blk_row h.b1 (by omega) c, below_row h.hb (by omega) c⟩
theorem TuF.lt (h : TuF w W cs zs) : w.heap.size + 1 < W.heap.size := blk_lt h.b1
end
/-- A slice as it reads behind a new block that is written whole. -/
theorem Slc.new {W : World} {v : Value} {o : Option Int} {t : TypeId} (h : Slc W v o) (c : Array Value) : Slc ((W.alloc (.cells zs39 t (0, 0))).setRow W.heap.size c) v o :=
  Slc.off (m := 0) (h.below (below_alloc (Below.refl _ _) _)) (blk_new W _) rfl (by decide) (gr_row (gr_refl _ _) _)
set_option maxHeartbeats 1600000 in
set_option maxRecDepth 100000 in
theorem turnG.calls (cs : Array Value) (C1 C2 : Value → Array Value) (win seg at_ n : Int) (w : World)
    (hsz : cs.size = 39) (hsz1 : ∀ v, (C1 v).size = 39) (hsz2 : ∀ v, (C2 v).size = 39) (hal1 : ∀ p m c, (C1 (.slice p m c)).all (·.oneCell') = true) (hal2 : ∀ p m c, (C2 (.slice p m c)).all (·.oneCell') = true)
    (H9 : cs[9]? = some (.int .i64 win)) (H0 : cs[0]? = some (.int .i64 seg)) (a0 : 0 ≤ at_) (a1 : at_ ≤ 1000000000)
    (HB : ∀ W, Calls Tryz.prog 9 #[.int .i64 win, .int .i64 seg] W fun e w' => e = .returned (.tuple #[.int .i64 n, .int .i64 0]) ∧ Below W.heap.size W w')
    (HS : ∀ W, Below w.heap.size w W → Calls Tryz.prog 10 #[.agg cs, .agg #[.int .i64 6, .int .i64 at_, .int .i64 n, .int .i64 0]] W fun e w' => ∃ p m c o', e = .returned (.tuple #[.agg (C1 (.slice p m c)), .int .i64 0]) ∧ Slc w' (.slice p m c) o' ∧ (∀ x, o' = some x → 0 ≤ x ∧ x ≤ at_) ∧ Below W.heap.size W w')
    (HA : ∀ p m c o W, Slc W (.slice p m c) o → (∀ x, o = some x → 0 ≤ x ∧ x ≤ at_) → Calls Tryz.prog 10 #[.agg (C1 (.slice p m c)), .agg #[.int .i64 1, .int .i64 (at_ + 100000), .int .i64 n, .int .i64 100000]] W fun e w' => ∃ p m c o', e = .returned (.tuple #[.agg (C2 (.slice p m c)), .int .i64 0]) ∧ Slc w' (.slice p m c) o' ∧ (∀ x, o' = some x → 0 ≤ x ∧ x ≤ at_ + 100000) ∧ Below W.heap.size W w') :
    Calls Tryz.prog 6 #[.agg cs, .int .i64 at_] w fun e w' => ∃ p m c o', e = .returned (.tuple #[.agg (C2 (.slice p m c)), .bool true]) ∧ Slc w' (.slice p m c) o' ∧ (∀ x, o' = some x → 0 ≤ x ∧ x ≤ at_ + 100000) ∧ Below w.heap.size w w' := by
  have SZ := Aside0.mk (show (Tryz.prog.info? 39).map (·.size) = some cs.size from by rw [hsz]; kernel_rfl)
  have SZ1 := Aside0.mk (show ∀ v, (Tryz.prog.info? 39).map (·.size) = some (C1 v).size from fun v => by rw [hsz1]; kernel_rfl)
  have SZ2 := Aside0.mk (show ∀ v, (Tryz.prog.info? 39).map (·.size) = some (C2 v).size from fun v => by rw [hsz2]; kernel_rfl)
  have SQ1 := Aside0.mk (show ∀ v, zs39.size = (C1 v).size from fun v => by rw [hsz1]; rfl)
  have SQ2 := Aside0.mk (show ∀ v, zs39.size = (C2 v).size from fun v => by rw [hsz2]; rfl)
  clear hsz hsz1 hsz2
  replace hal1 := Aside0.mk hal1
  replace hal2 := Aside0.mk hal2
  replace H9 := Aside0.mk H9
  replace H0 := Aside0.mk H0
  replace HB := Aside0.mk HB
  replace HS := Aside0.mk HS
  replace HA := Aside0.mk HA
  have ea : wrap64 (at_ + 100000) = at_ + 100000 := wrap64_id _ (by omega) (by omega)
  go_enter Tryz.func6, Tryz.ntmps6
  go_upto_region 1 with (fail)
  refine name_world (fun W => TuF w W cs zs39) ⟨by (repeat (first | (with_reducible refine new_at _ _ _ ?hn; (case hn => first | rfl | (simp; done))) | with_reducible refine blk_alloc ?_ _ | with_reducible refine blk_drewN ?_ _ | with_reducible refine blk_drew ?_ | (with_reducible refine blk_far ?_ ?hb _; (case hb => first | omega | (simp; done) | (simp; omega))))), by unfold zs39; (repeat (first | (with_reducible refine new_at _ _ _ ?hn; (case hn => first | rfl | (simp; done))) | with_reducible refine blk_alloc ?_ _ | with_reducible refine blk_drewN ?_ _ | with_reducible refine blk_drew ?_ | (with_reducible refine blk_far ?_ ?hb _; (case hb => first | omega | (simp; done) | (simp; omega))))), by (repeat (first | with_reducible exact HB.out | with_reducible exact Below.refl _ _ | with_reducible apply below_alloc | with_reducible apply pw_below_drewN | with_reducible apply below_drew1 | (with_reducible refine below_set ?_ ?hy; (case hy => omega))))⟩ ?_
  intro w1 F
  replace F := Aside0.mk F
  have c9 : w1.cell? ⟨w.heap.size, 9, none⟩ = some (.int .i64 win) := (blk_cell F.out.b0 9).trans H9.out
  have c0 : w1.cell? ⟨w.heap.size, 0, none⟩ = some (.int .i64 seg) := (blk_cell F.out.b0 0).trans H0.out
  go_upto_region 2 with (first | ((with_reducible refine (HB.out _).mono ?_); rintro e_ w2 ⟨rfl, hq⟩; have F' := Aside0.mk (F.out.below hq); clear F hq; have F := F'; clear F'; clear c9 c0) | fail)
  clear HB H9 H0
  go_upto_region 3 with (first | ((with_reducible refine gate_dst (N := 22) rfl ?_); refine wpList_load_row rfl 39 (.tmp 2) rfl (w.heap.size) rfl 39 cs (0, 0) _ F.out.b0 Tryz.underlying39 rfl SZ.out ?_) | ((with_reducible refine (HS.out _ F.out.hb).mono ?_); rintro e_ w3 ⟨p, m, c, o1, rfl, hs, ho, hq⟩; have F' := Aside0.mk (F.out.below hq); clear F hq; have F := F'; clear F'; replace hs := Aside0.mk hs; replace ho := Aside0.mk ho) | ((with_reducible refine gate_store (t := 39) (p := 8) rfl ?_); refine wpList_store_row rfl 39 (.tmp 8) (.tmp 27) rfl (w3.heap.size) (C1 (.slice p m c)) rfl rfl 39 zs39 (by unfold zs39; exact blk_new _ _) (SZ1.out _) (SQ1.out _) (hal1.out _ _ _) ?_) | fail)
  refine name_world (fun W => TuF w W cs zs39 ∧ W.heap[w3.heap.size]? = some (.cells (C1 (.slice p m c)) 39 (0, 0)) ∧ Slc W (.slice p m c) o1) ⟨(F.out.alloc _).row F.out.lt _, setRow_heap _ _ _ _ _ _ (blk_new _ _), hs.out.new _⟩ ?_
  clear F hs HS
  obtain ⟨g3, hg3⟩ : ∃ g : Nat, g = w3.heap.size := ⟨_, rfl⟩
  rw [← hg3]
  rintro w4 ⟨F, B3, hs⟩
  replace F := Aside0.mk F
  replace B3 := Aside0.mk B3
  replace hs := Aside0.mk hs
  clear hg3
  go_upto_region 4 with (first | ((with_reducible refine gate_dst (N := 30) rfl ?_); refine wpList_load_row rfl 39 (.tmp 8) rfl g3 rfl 39 (C1 (.slice p m c)) (0, 0) _ B3.out Tryz.underlying39 rfl (SZ1.out _) ?_) | ((with_reducible refine (HA.out _ _ _ _ _ hs.out ho.out).mono ?_); rintro e_ w5 ⟨p1, m1, c1, o2, rfl, hs2, ho2, hq⟩; have F' := Aside0.mk (F.out.below hq); clear F hq; have F := F'; clear F'; replace hs2 := Aside0.mk hs2; replace ho2 := Aside0.mk ho2) | ((with_reducible refine gate_store (t := 39) (p := 10) rfl ?_); refine wpList_store_row rfl 39 (.tmp 10) (.tmp 36) rfl (w5.heap.size) (C2 (.slice p1 m1 c1)) rfl rfl 39 zs39 (by unfold zs39; exact blk_new _ _) (SZ2.out _) (SQ2.out _) (hal2.out _ _ _) ?_) | fail)
  refine name_world (fun W => TuF w W cs zs39 ∧ W.heap[w5.heap.size]? = some (.cells (C2 (.slice p1 m1 c1)) 39 (0, 0)) ∧ Slc W (.slice p1 m1 c1) o2) ⟨(F.out.alloc _).row F.out.lt _, setRow_heap _ _ _ _ _ _ (blk_new _ _), hs2.out.new _⟩ ?_
  clear F hs2 HA B3 hs ho
  obtain ⟨g5, hg5⟩ : ∃ g : Nat, g = w5.heap.size := ⟨_, rfl⟩
  rw [← hg5]
  rintro w6 ⟨F, B3, hs⟩
  replace F := Aside0.mk F
  replace B3 := Aside0.mk B3
  replace hs := Aside0.mk hs
  clear hg5
  go_wp2_with (first | ((with_reducible refine gate_dst (N := 38) rfl ?_); refine wpList_load_row rfl 39 (.tmp 10) rfl g5 rfl 39 (C2 (.slice p1 m1 c1)) (0, 0) _ B3.out Tryz.underlying39 rfl (SZ2.out _) ?_) | ((with_reducible refine gate_store (t := 39) (p := 4) rfl ?_); refine wpList_store_row rfl 39 (.tmp 4) (.tmp 38) rfl (w.heap.size + 1) (C2 (.slice p1 m1 c1)) rfl rfl 39 zs39 F.out.b1 (SZ2.out _) (SQ2.out _) (hal2.out _ _ _) ?_) | fail)
  refine bodyPost_ret (results_ct rfl _ _ (w.heap.size + 1) 39 (C2 (.slice p1 m1 c1)) (0, 0) _ rfl (setRow_heap _ _ _ _ _ _ F.out.b1) Tryz.underlying39 rfl (SZ2.out _)) rfl ⟨p1, m1, c1, o2, rfl, Slc.off (m := 0) hs.out F.out.b1 rfl (by decide) (gr_row (gr_refl _ _) _), ho2.out, below_row F.out.hb (by omega) _⟩
/-- A connection between two turns: its window is of kk segments, the time is a, 'sent' bytes were sent, and told of. -/
structure Good (W : World) (seg mx fst grain lst great burst kk a sent : Int) (cs : Array Value) : Prop where
  ex : ∃ (last : Int) (has : Bool) (mean far id en hl : Int) (p : Option Addr) (sn sc : Nat) (o : Option Int), cs = stv seg mx fst grain lst great burst a last (kk * 65536) sent sent 0 has mean far id en hl a (burst * seg * 1000000) (.slice p sn sc) ∧ Slc W (.slice p sn sc) o ∧ (∀ x, o = some x → 0 ≤ x ∧ x ≤ a) ∧
    0 ≤ last ∧ last ≤ a ∧ a - last ≤ 100000 ∧ ((has = false ∧ mean = 0 ∧ far = 0) ∨ (has = true ∧ mean = 800000 ∧ 0 ≤ far ∧ far ≤ 4294967296)) ∧ 0 ≤ id ∧ id * 100000 ≤ a ∧ 0 ≤ en ∧ en ≤ sent ∧ 0 ≤ hl ∧ hl ≤ 1073741824
section
variable {W W' : World} {seg mx fst grain lst great burst kk a sent : Int} {cs : Array Value}
theorem Good.keep (h : Good W seg mx fst grain lst great burst kk a sent cs) (k : ∀ v o, Slc W v o → Slc W' v o) : Good W' seg mx fst grain lst great burst kk a sent cs := by
  obtain ⟨last, has, mean, far, id, en, hl, p, sn, sc, o, h1, h2, h3⟩ := h.ex
  exact ⟨last, has, mean, far, id, en, hl, p, sn, sc, o, h1, k _ _ h2, h3⟩
theorem Good.below (h : Good W seg mx fst grain lst great burst kk a sent cs) (k : Below W.heap.size W W') : Good W' seg mx fst grain lst great burst kk a sent cs := h.keep (fun _ _ hs => hs.below k)
theorem Good.size (h : Good W seg mx fst grain lst great burst kk a sent cs) : cs.size = 39 := by
  obtain ⟨last, has, mean, far, id, en, hl, p, sn, sc, o, rfl, _⟩ := h.ex
  rfl
theorem Good.one (h : Good W seg mx fst grain lst great burst kk a sent cs) : cs.all (·.oneCell') = true := by
  obtain ⟨last, has, mean, far, id, en, hl, p, sn, sc, o, rfl, _⟩ := h.ex
  simp [stv, Value.oneCell']
theorem Good.win (h : Good W seg mx fst grain lst great burst kk a sent cs) : cs[9]? = some (.int .i64 (kk * 65536)) := by
  obtain ⟨last, has, mean, far, id, en, hl, p, sn, sc, o, rfl, _⟩ := h.ex
  rfl
theorem Good.now (h : Good W seg mx fst grain lst great burst kk a sent cs) : cs[7]? = some (.int .i64 a) := by
  obtain ⟨last, has, mean, far, id, en, hl, p, sn, sc, o, rfl, _⟩ := h.ex
  rfl
theorem Good.told (h : Good W seg mx fst grain lst great burst kk a sent cs) : cs[13]? = some (.int .i64 sent) := by
  obtain ⟨last, has, mean, far, id, en, hl, p, sn, sc, o, rfl, _⟩ := h.ex
  rfl
/-- A block is written that is not the marks'. -/
theorem Good.off (h : Good W seg mx fst grain lst great burst kk a sent cs) {g : Nat} {c : Array Value} {t : TypeId} {m : Int} (hG : W.heap[g]? = some (.cells c t (0, 0))) (hm : c[1]? = some (.int .i64 m)) (hne : m ≠ 100000) (k : W.grownBy W' (some g)) :
    Good W' seg mx fst grain lst great burst kk a sent cs := h.keep (fun _ _ hs => hs.off hG hm hne k)
end
theorem nxt_bounds {kk mx : Int} (h2 : 2 ≤ kk) (h3 : kk ≤ mx) : kk ≤ nxt kk mx ∧ nxt kk mx ≤ mx := by
  unfold nxt
  split <;> split <;> omega
set_option maxHeartbeats 1600000 in
set_option maxRecDepth 100000 in
theorem turnO.calls (seg mx fst grain lst great burst kk a sent : Int) (cs : Array Value) (w : World) (hok : okCfg seg mx fst grain lst great burst) (hmb : mx ≤ burst) (hgr : 100000 ≤ great) (k2 : 2 ≤ kk) (k3 : kk ≤ mx)
    (a0 : 0 ≤ a) (a1 : a ≤ 100000000) (s0 : 0 ≤ sent) (s1 : sent ≤ 100000000000) (h : Good w seg mx fst grain lst great burst kk a sent cs) :
    Calls Tryz.prog 6 #[.agg cs, .int .i64 a] w fun e w' => ∃ cs', e = .returned (.tuple #[.agg cs', .bool true]) ∧ Good w' seg mx fst grain lst great burst (nxt kk mx) (a + 100000) (sent + kk * seg) cs' ∧ Below w.heap.size w w' := by
  obtain ⟨last, has, mean, far, id, en, hl, p, sn, sc, o, rfl, hs, ho, l0, l1, l2, hr, i0, i1, e0, e1, m0, m1⟩ := h.ex
  obtain ⟨c0, c1, c2, c3, c4, c5, c6, c7, c8, c9, c10, c11, c12, c13⟩ := hok.bounds
  obtain ⟨t1, t2, t3⟩ := tw3 kk seg burst c0 c1 k2 (by omega) c13
  have t5 := tw2 kk seg
  obtain ⟨f2, hf, hf2⟩ : ∃ f2 : Int, ((has = false ∧ mean = 0 ∧ far = 0 ∧ f2 = 200000) ∨ (has = true ∧ mean = 800000 ∧ 0 ≤ far ∧ far ≤ 4294967296 ∧ f2 = far - far / 4)) ∧ 0 ≤ f2 ∧ f2 ≤ 4294967296 := by
    rcases hr with ⟨x, y, z⟩ | ⟨x, y, z, u⟩
    · exact ⟨200000, .inl ⟨x, y, z, rfl⟩, by omega, by omega⟩
    · exact ⟨far - far / 4, .inr ⟨x, y, z, u, rfl⟩, by omega, by omega⟩
  refine (turnG.calls (stv seg mx fst grain lst great burst a last (kk * 65536) sent sent 0 has mean far id en hl a (burst * seg * 1000000) (.slice p sn sc)) (fun v => stv seg mx fst grain lst great burst a a (kk * 65536) (sent + kk * seg) sent (kk * seg) has mean far id en hl a (burst * seg * 1000000 - kk * seg * 1000000) v) (fun v => stv seg mx fst grain lst great burst (a + 100000) a (nxt kk mx * 65536) (sent + kk * seg) (sent + kk * seg) 0 true 800000 f2 (id + 1) (sent + kk * seg) 100000 (a + 100000) (burst * seg * 1000000) v) (kk * 65536) seg a (kk * seg) w rfl (fun _ => rfl) (fun _ => rfl) (fun _ _ _ => by simp [stv, Value.oneCell']) (fun _ _ _ => by simp [stv, Value.oneCell']) rfl rfl a0 (by omega)
    (fun W => bytes9.calls (kk * 65536) seg (kk * seg) W (by omega) (by omega) (by omega) (by omega) (by omega) (by omega))
    (fun W hW => doSend.calls seg mx fst grain lst great burst last kk sent has mean far p sn sc id en hl a o W hok hmb hgr k2 k3 l0 l1 l2 (by omega) s0 (by omega) hr i0 e0 m0 m1 (hs.below hW) ho)
    (fun p m c o' W hs' ho' => doAck.calls seg mx fst grain lst great burst kk sent has mean far f2 p m c id en hl a o' W hok hmb hgr k2 k3 a0 (by omega) s0 (by omega) hf i0 (by omega) e0 e1 m0 m1 hs' ho')).mono ?_
  rintro e_ w' ⟨p', m', c', o', rfl, hs', ho', hb⟩
  exact ⟨_, rfl, ⟨a, true, 800000, f2, id + 1, sent + kk * seg, 100000, p', m', c', o', rfl, hs', ho', a0, by omega, by omega, .inr ⟨rfl, rfl, hf2⟩, by omega, by omega, by omega, by omega, by omega, by omega⟩, hb⟩

end Go.Proofs.YtpkjdjhojbadhaaGreatDoor.Hp
