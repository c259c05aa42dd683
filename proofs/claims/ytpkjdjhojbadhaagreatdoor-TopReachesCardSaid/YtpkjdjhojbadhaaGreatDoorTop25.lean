/- engine.New of a configuration that may be. -/
import Derived.Test.YtpkjdjhojbadhaaGreatDoorTop23
import Derived.Test.YtpkjdjhojbadhaaGreatDoorTop24
import Derived.Deep.RegionHeld3
set_option linter.unusedVariables false
set_option linter.unusedSimpArgs false
namespace Go.Proofs.YtpkjdjhojbadhaaGreatDoor.Hp
open Go.RowKit Go.Proofs.YtpkjdjhojbadhaaGreatDoorW.PrintWords Go.Proofs.YtpkjdjhojbadhaaGreatDoorW.PrintLast Go.Proofs.YtpkjdjhojbadhaaGreatDoorW.PrintMore
attribute [local go_sem] max2_int min2_int max_two min_two max_three min_three max_four min_four
theorem yieldsIf_load_row {P : Program} {ops : Array Oper} {S : World → Prop} {op : Oper} {a : Act} (hw : Region.wanted op (yielded ops a.tmps) = true) (ty : TypeId) (x : Operand) (ho : op.op = .load ty x)
    (b : Nat) (hx : a.eval x = .pointer (some ⟨b, 0, none⟩)) (t : TypeId) (cs : Array Value) (fr : Nat × Nat) (d : TypeDesc) (hS : ∀ w, S w → w.heap[b]? = some (.cells cs t fr))
    (hu : P.underlying ty = some d) (hd : (match d with | .struct _ | .array _ _ => true | _ => false) = true) (hi : (P.info? ty).map (·.size) = some cs.size) : YieldsIf P ops S op (.agg cs) a :=
  .inl ⟨hw, fun w hw' => by
    unfold execOp
    simp only [ho, hx, Instr.loadAt, Instr.sureAddr, Sem.run_bind, Sem.run_pure, Result.andThen_ok, run_loadVar_row w b t ty cs fr d (hS w hw') hu hd hi]⟩
theorem yieldsIf_build {P : Program} {ops : Array Oper} {S : World → Prop} {op : Oper} {a : Act} (hw : Region.wanted op (yielded ops a.tmps) = true) (t : TypeId) (parts : Array (Nat × Operand)) (ho : op.op = .build t parts)
    (cells : Array Value) (hc : P.built t (parts.map fun (i, x) => (i, a.eval x)).toList = some cells) : YieldsIf P ops S op (.agg cells) a :=
  .inl ⟨hw, fun w _ => by
    unfold execOp
    simp only [ho, Sem.run_bind, run_build w t _ cells hc, Result.andThen_ok]
    rfl⟩
theorem step_store {P : Program} {ops : Array Oper} {o : Oper} {a : Act} {Q : Exit → Act → World → Prop} {Kc : Act → World → Prop} {E : Prop} {W : World} (hgd : o.guard = none) (ty : TypeId) (x y : Operand) (ho : o.op = .store ty x y)
    (g : Nat) (cells : Array Value) (hx : a.eval x = .pointer (some ⟨g, 0, none⟩)) (hy : a.eval y = .agg cells) (t : TypeId) (old : Array Value) (hg : W.heap[g]? = some (.cells old t (0, 0))) (hi : (P.info? ty).map (·.size) = some cells.size)
    (hold : old.size = cells.size) (h1 : cells.all (·.oneCell') = true) (h : Kc (a.put o.dst undef) (W.setRow g cells)) :
    if Region.wanted o (yielded ops a.tmps) = true then Oper.wp P o a W Kc Q else E := by
  have hw : Region.wanted o (yielded ops a.tmps) = true := by simp [Region.wanted, hgd]
  rw [if_pos hw]
  exact wp_store_row ty x y ho g cells hx hy t old hg hi hold h1 h
/-- What engine.New has made of its own. -/
structure NewF (w W : World) (cf zs : Array Value) : Prop where
  b0 : W.heap[w.heap.size]? = some (.cells cf 23 (0, 0))
  b1 : W.heap[w.heap.size + 1]? = some (.cells zs 39 (0, 0))
  hb : Below w.heap.size w W
section
variable {w W W' : World} {cf zs : Array Value}
theorem NewF.below (h : NewF w W cf zs) (k : Below W.heap.size W W') : NewF w W' cf zs := ⟨blk_below h.b0 k, blk_below h.b1 k, below_step h.hb k⟩
theorem NewF.alloc (h : NewF w W cf zs) (o : Obj) : NewF w (W.alloc o) cf zs := h.below (below_alloc (Below.refl _ _) _)
theorem NewF.drew (h : NewF w W cf zs) : NewF w W.drew cf zs := h.below (below_drew1 (Below.refl _ _))
theorem NewF.row (h : NewF w W cf zs) {g : Nat} (hg : w.heap.size + 1 < g) (c : Array Value) : NewF w (W.setRow g c) cf zs := ⟨blk_row h.b0 (by omega) c, blk_row h.b1 (by omega) c, below_row h.hb (by omega) c⟩
theorem NewF.lt (h : NewF w W cf zs) : w.heap.size + 1 < W.heap.size := blk_lt h.b1
end
set_option maxHeartbeats 1600000 in
set_option maxRecDepth 100000 in
theorem newO.calls (seg mx fst grain lst great burst : Int) (w : World) (hok : okCfg seg mx fst grain lst great burst) (f0 : 0 ≤ fst) (f1 : fst ≤ 1048576) (bs : 0 ≤ burst * seg) (bs1 : burst * seg ≤ 9000000) :
    Calls Tryz.prog 5 #[.agg #[.int .i64 (seg), .int .i64 (mx), .int .i64 (fst), .int .i64 (grain), .int .i64 (lst), .int .i64 (great), .int .i64 (burst)]] w fun e w' => e = .returned (.tuple #[.agg #[.int .i64 (seg), .int .i64 (mx), .int .i64 (fst), .int .i64 (grain), .int .i64 (lst), .int .i64 (great), .int .i64 (burst), .int .i64 0, .int .i64 0, .int .i64 ((fst * 65536)), .int .i64 68719476736, .int .i64 0, .int .i64 0, .int .i64 0, .int .i64 0, .bool false, .int .i64 0, .int .i64 0, .slice none 0 0, .int .i64 0, .int .i64 0, .int .i64 0, .int .i64 0, .int .i64 0, .bool false, .bool false, .int .i64 0, .int .i64 0, .bool false, .int .i64 0, .int .i64 0, .int .i64 0, .int .i64 0, .int .i64 0, .int .i64 0, .int .i64 0, .int .i64 0, .int .i64 ((burst * seg * 1000000)), .bool false], .int .i64 0]) ∧ Below w.heap.size w w' := by
  have CK := Aside0.mk (fun W => check.calls seg mx fst grain lst great burst 0 (fun _ => rfl) (fun h => absurd hok h) W)
  have FI := Aside0.mk (fun W => first8.calls seg mx fst grain lst great burst W hok f0 f1)
  have e0 : wrap64 (burst * seg) = burst * seg := wrap64_id _ (by omega) (by omega)
  have e1 : wrap64 (burst * seg * 1000000) = burst * seg * 1000000 := wrap64_id _ (by omega) (by omega)
  clear hok
  go_enter Tryz.func5, Tryz.ntmps5
  go_upto_region 1 with (fail)
  refine name_world (fun W => NewF w W #[.int .i64 (seg), .int .i64 (mx), .int .i64 (fst), .int .i64 (grain), .int .i64 (lst), .int .i64 (great), .int .i64 (burst)] zs39) ⟨by (repeat (first | (with_reducible refine new_at _ _ _ ?hn; (case hn => first | rfl | (simp; done))) | with_reducible refine blk_alloc ?_ _ | with_reducible refine blk_drewN ?_ _ | with_reducible refine blk_drew ?_ | (with_reducible refine blk_far ?_ ?hb _; (case hb => first | omega | (simp; done) | (simp; omega))))), by unfold zs39; (repeat (first | (with_reducible refine new_at _ _ _ ?hn; (case hn => first | rfl | (simp; done))) | with_reducible refine blk_alloc ?_ _ | with_reducible refine blk_drewN ?_ _ | with_reducible refine blk_drew ?_ | (with_reducible refine blk_far ?_ ?hb _; (case hb => first | omega | (simp; done) | (simp; omega))))), by (repeat (first | with_reducible exact HB.out | with_reducible exact Below.refl _ _ | with_reducible apply below_alloc | with_reducible apply pw_below_drewN | with_reducible apply below_drew1 | (with_reducible refine below_set ?_ ?hy; (case hy => omega))))⟩ ?_
  intro w1 F
  replace F := Aside0.mk F
  go_upto_region 4 with (first | ((with_reducible refine gate_dst (N := 6) rfl ?_); refine wpList_load_row rfl 23 (.tmp 1) rfl (w.heap.size) rfl 23 #[.int .i64 (seg), .int .i64 (mx), .int .i64 (fst), .int .i64 (grain), .int .i64 (lst), .int .i64 (great), .int .i64 (burst)] (0, 0) _ F.out.b0 Tryz.underlying23 rfl (by kernel_rfl) ?_) | ((with_reducible refine (CK.out _).mono ?_); rintro e_ w2 ⟨rfl, hq⟩; have F' := Aside0.mk (F.out.below hq); clear F hq; have F := F'; clear F') | fail)
  clear CK
  go_cut [5] from 12 to 15 (fun v_ wx => ∃ g5 : Nat, v_ = .pointer (some ⟨g5, 0, none⟩) ∧ w.heap.size + 1 < g5 ∧ Aside0 (NewF w wx #[.int .i64 (seg), .int .i64 (mx), .int .i64 (fst), .int .i64 (grain), .int .i64 (lst), .int .i64 (great), .int .i64 (burst)] zs39) ∧ Aside0 (wx.heap[g5]? = some (.cells #[.int .i64 (seg), .int .i64 (mx), .int .i64 (fst), .int .i64 (grain), .int .i64 (lst), .int .i64 (great), .int .i64 (burst), .int .i64 0, .int .i64 0, .int .i64 ((fst * 65536)), .int .i64 68719476736, .int .i64 0, .int .i64 0, .int .i64 0, .int .i64 0, .bool false, .int .i64 0, .int .i64 0, .slice none 0 0, .int .i64 0, .int .i64 0, .int .i64 0, .int .i64 0, .int .i64 0, .bool false, .bool false, .int .i64 0, .int .i64 0, .bool false, .int .i64 0, .int .i64 0, .int .i64 0, .int .i64 0, .int .i64 0, .int .i64 0, .int .i64 0, .int .i64 0, .int .i64 (0), .bool false] 39 (0, 0))))
  case first =>
    refine wp_region_held_drew (S := fun W => NewF w W #[.int .i64 (seg), .int .i64 (mx), .int .i64 (fst), .int .i64 (grain), .int .i64 (lst), .int .i64 (great), .int .i64 (burst)] zs39) (by kernel_rfl) F.out.drew (fun hH => ?_)
    replace hH := Aside0.mk hH
    clear F
    refine wpAnyH_take (i := 0) rfl (by kernel_rfl) (by kernel_rfl) (by kernel_rfl) (fun _ _ _ h => h) (yieldsIf_load_row (by rfl) 23 (.tmp 1) rfl (w.heap.size) rfl 23 #[.int .i64 (seg), .int .i64 (mx), .int .i64 (fst), .int .i64 (grain), .int .i64 (lst), .int .i64 (great), .int .i64 (burst)] (0, 0) _ (fun W h => NewF.b0 h) Tryz.underlying23 rfl (by kernel_rfl)) hH.out ?_
    try simp only [Act.put, List.setIfInBounds_toArray, List.set_cons_zero, List.set_cons_succ]
    refine wpAnyH_take (i := 1) rfl (by kernel_rfl) (by kernel_rfl) (by kernel_rfl) (fun _ _ _ h => h) (yieldsIf_load_row (by rfl) 23 (.tmp 1) rfl (w.heap.size) rfl 23 #[.int .i64 (seg), .int .i64 (mx), .int .i64 (fst), .int .i64 (grain), .int .i64 (lst), .int .i64 (great), .int .i64 (burst)] (0, 0) _ (fun W h => NewF.b0 h) Tryz.underlying23 rfl (by kernel_rfl)) hH.out ?_
    try simp only [Act.put, List.setIfInBounds_toArray, List.set_cons_zero, List.set_cons_succ]
    refine wpAnyH_ready (rs := [2, 4]) (by kernel_rfl) (by simp) (AllReadyH.cons rfl (fun K hK => ?_) (AllReadyH.cons rfl (fun K hK => ?_) AllReadyH.nil))
    ·
      go_simp
      refine (FI.out _).mono ?_
      rintro e_ w3 ⟨rfl, hq⟩
      show K _ _
      refine hK.out _ _ (hH.out.below hq) (fun hH2 => ?_)
      clear hq hH
      have hH := hH2
      clear hH2
      replace hH := Aside0.mk hH
      clear hK K
      try simp only [Act.put, List.setIfInBounds_toArray, List.set_cons_zero, List.set_cons_succ]
      refine wpAnyH_take (i := 3) rfl (by kernel_rfl) (by kernel_rfl) (by kernel_rfl) (fun _ _ _ h => h) (yieldsIf_build (by rfl) 39 _ rfl #[.int .i64 (seg), .int .i64 (mx), .int .i64 (fst), .int .i64 (grain), .int .i64 (lst), .int .i64 (great), .int .i64 (burst), .int .i64 0, .int .i64 0, .int .i64 ((fst * 65536)), .int .i64 68719476736, .int .i64 0, .int .i64 0, .int .i64 0, .int .i64 0, .bool false, .int .i64 0, .int .i64 0, .slice none 0 0, .int .i64 0, .int .i64 0, .int .i64 0, .int .i64 0, .int .i64 0, .bool false, .bool false, .int .i64 0, .int .i64 0, .bool false, .int .i64 0, .int .i64 0, .int .i64 0, .int .i64 0, .int .i64 0, .int .i64 0, .int .i64 0, .int .i64 0, .int .i64 (0), .bool false] (by kernel_rfl)) hH.out ?_
      try simp only [Act.put, List.setIfInBounds_toArray, List.set_cons_zero, List.set_cons_succ]
      refine wpAnyH_ready (rs := [4]) (by kernel_rfl) (by simp) (AllReadyH.cons rfl (fun K hK => ?_) AllReadyH.nil)
      have hlt := hH.out.lt
      go_simp
      refine hK.out _ _ (hH.out.alloc _) (fun hH2 => ?_)
      clear hH
      have hH := hH2
      clear hH2
      replace hH := Aside0.mk hH
      clear hK K
      try simp only [Act.put, List.setIfInBounds_toArray, List.set_cons_zero, List.set_cons_succ]
      refine wpAnyH_ready (rs := [5]) (by kernel_rfl) (by simp) (AllReadyH.cons rfl (fun K hK => ?_) AllReadyH.nil)
      refine step_store (by rfl) 39 (.tmp 5) (.tmp 15) (by rfl) (w3.heap.size) #[.int .i64 (seg), .int .i64 (mx), .int .i64 (fst), .int .i64 (grain), .int .i64 (lst), .int .i64 (great), .int .i64 (burst), .int .i64 0, .int .i64 0, .int .i64 ((fst * 65536)), .int .i64 68719476736, .int .i64 0, .int .i64 0, .int .i64 0, .int .i64 0, .bool false, .int .i64 0, .int .i64 0, .slice none 0 0, .int .i64 0, .int .i64 0, .int .i64 0, .int .i64 0, .int .i64 0, .bool false, .bool false, .int .i64 0, .int .i64 0, .bool false, .int .i64 0, .int .i64 0, .int .i64 0, .int .i64 0, .int .i64 0, .int .i64 0, .int .i64 0, .int .i64 0, .int .i64 (0), .bool false] (by rfl) (by rfl) 39 #[.int .i64 0, .int .i64 0, .int .i64 0, .int .i64 0, .int .i64 0, .int .i64 0, .int .i64 0, .int .i64 0, .int .i64 0, .int .i64 0, .int .i64 0, .int .i64 0, .int .i64 0, .int .i64 0, .int .i64 0, .bool false, .int .i64 0, .int .i64 0, .slice none 0 0, .int .i64 0, .int .i64 0, .int .i64 0, .int .i64 0, .int .i64 0, .bool false, .bool false, .int .i64 0, .int .i64 0, .bool false, .int .i64 0, .int .i64 0, .int .i64 0, .int .i64 0, .int .i64 0, .int .i64 0, .int .i64 0, .int .i64 0, .int .i64 0, .bool false] (blk_new w3 _) (by kernel_rfl) (by rfl) (by simp [Value.oneCell']) ?_
      refine hK.out _ _ (hH.out.row (hlt) _) (fun hH2 => ?_)
      clear hH
      have hH := hH2
      clear hH2
      replace hH := Aside0.mk hH
      clear hK K
      try simp only [Act.put, List.setIfInBounds_toArray, List.set_cons_zero, List.set_cons_succ]
      refine wpAnyH_done (by kernel_rfl) ?_ _
      go_wp2_with fail
      go_meet
      exact ⟨w3.heap.size, rfl, hlt, hH, ⟨setRow_heap _ _ _ _ _ _ (blk_new w3 _)⟩⟩
    ·
      have hlt : w.heap.size + 1 < w2.heap.size := hH.out.lt
      go_simp
      refine hK.out _ _ (hH.out.alloc _) (fun hH2 => ?_)
      clear hH
      have hH := hH2
      clear hH2
      replace hH := Aside0.mk hH
      clear hK K
      try simp only [Act.put, List.setIfInBounds_toArray, List.set_cons_zero, List.set_cons_succ]
      refine wpAnyH_ready (rs := [2]) (by kernel_rfl) (by simp) (AllReadyH.cons rfl (fun K hK => ?_) AllReadyH.nil)
      have hnew : (w2.drew.alloc (.cells #[.int .i64 0, .int .i64 0, .int .i64 0, .int .i64 0, .int .i64 0, .int .i64 0, .int .i64 0, .int .i64 0, .int .i64 0, .int .i64 0, .int .i64 0, .int .i64 0, .int .i64 0, .int .i64 0, .int .i64 0, .bool false, .int .i64 0, .int .i64 0, .slice none 0 0, .int .i64 0, .int .i64 0, .int .i64 0, .int .i64 0, .int .i64 0, .bool false, .bool false, .int .i64 0, .int .i64 0, .bool false, .int .i64 0, .int .i64 0, .int .i64 0, .int .i64 0, .int .i64 0, .int .i64 0, .int .i64 0, .int .i64 0, .int .i64 0, .bool false] 39 (0, 0))).heap[w2.heap.size]? = some (.cells #[.int .i64 0, .int .i64 0, .int .i64 0, .int .i64 0, .int .i64 0, .int .i64 0, .int .i64 0, .int .i64 0, .int .i64 0, .int .i64 0, .int .i64 0, .int .i64 0, .int .i64 0, .int .i64 0, .int .i64 0, .bool false, .int .i64 0, .int .i64 0, .slice none 0 0, .int .i64 0, .int .i64 0, .int .i64 0, .int .i64 0, .int .i64 0, .bool false, .bool false, .int .i64 0, .int .i64 0, .bool false, .int .i64 0, .int .i64 0, .int .i64 0, .int .i64 0, .int .i64 0, .int .i64 0, .int .i64 0, .int .i64 0, .int .i64 0, .bool false] 39 (0, 0)) := blk_new w2.drew _
      replace hnew := Aside0.mk hnew
      go_simp
      refine (FI.out _).mono ?_
      rintro e_ w3 ⟨rfl, hq⟩
      replace hnew := Aside0.mk (blk_below hnew.out hq)
      refine hK.out _ _ (hH.out.below hq) (fun hH2 => ?_)
      clear hq hH
      have hH := hH2
      clear hH2
      replace hH := Aside0.mk hH
      clear hK K
      try simp only [Act.put, List.setIfInBounds_toArray, List.set_cons_zero, List.set_cons_succ]
      refine wpAnyH_take (i := 3) rfl (by kernel_rfl) (by kernel_rfl) (by kernel_rfl) (fun _ _ _ h => h) (yieldsIf_build (by rfl) 39 _ rfl #[.int .i64 (seg), .int .i64 (mx), .int .i64 (fst), .int .i64 (grain), .int .i64 (lst), .int .i64 (great), .int .i64 (burst), .int .i64 0, .int .i64 0, .int .i64 ((fst * 65536)), .int .i64 68719476736, .int .i64 0, .int .i64 0, .int .i64 0, .int .i64 0, .bool false, .int .i64 0, .int .i64 0, .slice none 0 0, .int .i64 0, .int .i64 0, .int .i64 0, .int .i64 0, .int .i64 0, .bool false, .bool false, .int .i64 0, .int .i64 0, .bool false, .int .i64 0, .int .i64 0, .int .i64 0, .int .i64 0, .int .i64 0, .int .i64 0, .int .i64 0, .int .i64 0, .int .i64 (0), .bool false] (by kernel_rfl)) hH.out ?_
      try simp only [Act.put, List.setIfInBounds_toArray, List.set_cons_zero, List.set_cons_succ]
      refine wpAnyH_ready (rs := [5]) (by kernel_rfl) (by simp) (AllReadyH.cons rfl (fun K hK => ?_) AllReadyH.nil)
      refine step_store (by rfl) 39 (.tmp 5) (.tmp 15) (by rfl) (w2.heap.size) #[.int .i64 (seg), .int .i64 (mx), .int .i64 (fst), .int .i64 (grain), .int .i64 (lst), .int .i64 (great), .int .i64 (burst), .int .i64 0, .int .i64 0, .int .i64 ((fst * 65536)), .int .i64 68719476736, .int .i64 0, .int .i64 0, .int .i64 0, .int .i64 0, .bool false, .int .i64 0, .int .i64 0, .slice none 0 0, .int .i64 0, .int .i64 0, .int .i64 0, .int .i64 0, .int .i64 0, .bool false, .bool false, .int .i64 0, .int .i64 0, .bool false, .int .i64 0, .int .i64 0, .int .i64 0, .int .i64 0, .int .i64 0, .int .i64 0, .int .i64 0, .int .i64 0, .int .i64 (0), .bool false] (by rfl) (by rfl) 39 #[.int .i64 0, .int .i64 0, .int .i64 0, .int .i64 0, .int .i64 0, .int .i64 0, .int .i64 0, .int .i64 0, .int .i64 0, .int .i64 0, .int .i64 0, .int .i64 0, .int .i64 0, .int .i64 0, .int .i64 0, .bool false, .int .i64 0, .int .i64 0, .slice none 0 0, .int .i64 0, .int .i64 0, .int .i64 0, .int .i64 0, .int .i64 0, .bool false, .bool false, .int .i64 0, .int .i64 0, .bool false, .int .i64 0, .int .i64 0, .int .i64 0, .int .i64 0, .int .i64 0, .int .i64 0, .int .i64 0, .int .i64 0, .int .i64 0, .bool false] (hnew.out) (by kernel_rfl) (by rfl) (by simp [Value.oneCell']) ?_
      refine hK.out _ _ (hH.out.row (hlt) _) (fun hH2 => ?_)
      clear hH
      have hH := hH2
      clear hH2
      replace hH := Aside0.mk hH
      clear hK K
      try simp only [Act.put, List.setIfInBounds_toArray, List.set_cons_zero, List.set_cons_succ]
      refine wpAnyH_done (by kernel_rfl) ?_ _
      go_wp2_with fail
      go_meet
      exact ⟨w2.heap.size, rfl, hlt, hH, ⟨setRow_heap _ _ _ _ _ _ hnew.out⟩⟩
  case rest =>
    obtain ⟨g5, rfl, hg5, F, B5⟩ := hcut
    have c0 : wc.cell? ⟨w.heap.size, 0, none⟩ = some (.int .i64 seg) := (blk_cell F.out.b0 0).trans rfl
    have c6 : wc.cell? ⟨w.heap.size, 6, none⟩ = some (.int .i64 burst) := (blk_cell F.out.b0 6).trans rfl
    have c37 : wc.cell? ⟨g5, 37, none⟩ = some (.int .i64 0) := (blk_cell B5.out 37).trans rfl
    have fr37 : wc.frozen? ⟨g5, 37, none⟩ = false := blk_frozen B5.out 37
    go_upto_region 6 with (fail)
    clear c0 c6 c37 fr37
    refine name_world (fun W => Aside0 (NewF w W #[.int .i64 (seg), .int .i64 (mx), .int .i64 (fst), .int .i64 (grain), .int .i64 (lst), .int .i64 (great), .int .i64 (burst)] zs39) ∧ Aside0 (W.heap[g5]? = some (.cells #[.int .i64 (seg), .int .i64 (mx), .int .i64 (fst), .int .i64 (grain), .int .i64 (lst), .int .i64 (great), .int .i64 (burst), .int .i64 0, .int .i64 0, .int .i64 ((fst * 65536)), .int .i64 68719476736, .int .i64 0, .int .i64 0, .int .i64 0, .int .i64 0, .bool false, .int .i64 0, .int .i64 0, .slice none 0 0, .int .i64 0, .int .i64 0, .int .i64 0, .int .i64 0, .int .i64 0, .bool false, .bool false, .int .i64 0, .int .i64 0, .bool false, .int .i64 0, .int .i64 0, .int .i64 0, .int .i64 0, .int .i64 0, .int .i64 0, .int .i64 0, .int .i64 0, .int .i64 ((burst * seg * 1000000)), .bool false] 39 (0, 0)))) ⟨⟨blk_far F.out.b0 (by simp only; omega) _, blk_far F.out.b1 (by simp only; omega) _, F.out.hb.setCell (by simp only; omega) _⟩, ⟨blk_put B5.out 37 _ rfl⟩⟩ ?_
    clear F B5
    rintro w5 ⟨F, B5⟩
    go_wp2_with (first | ((with_reducible refine gate_dst (N := 24) rfl ?_); refine wpList_load_row rfl 39 (.tmp 5) rfl g5 rfl 39 #[.int .i64 (seg), .int .i64 (mx), .int .i64 (fst), .int .i64 (grain), .int .i64 (lst), .int .i64 (great), .int .i64 (burst), .int .i64 0, .int .i64 0, .int .i64 ((fst * 65536)), .int .i64 68719476736, .int .i64 0, .int .i64 0, .int .i64 0, .int .i64 0, .bool false, .int .i64 0, .int .i64 0, .slice none 0 0, .int .i64 0, .int .i64 0, .int .i64 0, .int .i64 0, .int .i64 0, .bool false, .bool false, .int .i64 0, .int .i64 0, .bool false, .int .i64 0, .int .i64 0, .int .i64 0, .int .i64 0, .int .i64 0, .int .i64 0, .int .i64 0, .int .i64 0, .int .i64 ((burst * seg * 1000000)), .bool false] (0, 0) _ B5.out Tryz.underlying39 rfl (by kernel_rfl) ?_) | ((with_reducible refine gate_store (t := 39) (p := 2) rfl ?_); refine wpList_store_row rfl 39 (.tmp 2) (.tmp 24) rfl (w.heap.size + 1) #[.int .i64 (seg), .int .i64 (mx), .int .i64 (fst), .int .i64 (grain), .int .i64 (lst), .int .i64 (great), .int .i64 (burst), .int .i64 0, .int .i64 0, .int .i64 ((fst * 65536)), .int .i64 68719476736, .int .i64 0, .int .i64 0, .int .i64 0, .int .i64 0, .bool false, .int .i64 0, .int .i64 0, .slice none 0 0, .int .i64 0, .int .i64 0, .int .i64 0, .int .i64 0, .int .i64 0, .bool false, .bool false, .int .i64 0, .int .i64 0, .bool false, .int .i64 0, .int .i64 0, .int .i64 0, .int .i64 0, .int .i64 0, .int .i64 0, .int .i64 0, .int .i64 0, .int .i64 ((burst * seg * 1000000)), .bool false] rfl rfl 39 zs39 F.out.b1 (by kernel_rfl) rfl (by simp [Value.oneCell']) ?_) | fail)
    refine bodyPost_ret (results_ct rfl _ _ (w.heap.size + 1) 39 #[.int .i64 (seg), .int .i64 (mx), .int .i64 (fst), .int .i64 (grain), .int .i64 (lst), .int .i64 (great), .int .i64 (burst), .int .i64 0, .int .i64 0, .int .i64 ((fst * 65536)), .int .i64 68719476736, .int .i64 0, .int .i64 0, .int .i64 0, .int .i64 0, .bool false, .int .i64 0, .int .i64 0, .slice none 0 0, .int .i64 0, .int .i64 0, .int .i64 0, .int .i64 0, .int .i64 0, .bool false, .bool false, .int .i64 0, .int .i64 0, .bool false, .int .i64 0, .int .i64 0, .int .i64 0, .int .i64 0, .int .i64 0, .int .i64 0, .int .i64 0, .int .i64 0, .int .i64 ((burst * seg * 1000000)), .bool false] (0, 0) _ rfl (setRow_heap _ _ _ _ _ _ F.out.b1) Tryz.underlying39 rfl (by kernel_rfl)) rfl ⟨rfl, below_row F.out.hb (by omega) _⟩

end Go.Proofs.YtpkjdjhojbadhaaGreatDoor.Hp
