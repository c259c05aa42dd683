/- Functions of the program as Lean functions, each with its contract: the call comes to that answer. Told by wip/tools/handprint.py of this session. -/
import Derived.Test.YtghhjkjdeohmiaaHpx0
import Derived.Test.YtghhjkjdeohmiaaHpx2
import Derived.Test.YtghhjkjdeohmiaaHpx3
import Derived.Test.YtghhjkjdeohmiaaHpx4
namespace Go.Proofs.Ytghhjkjdeohmiaa.Hp
open Go.RowKit Go.Proofs.YtghhjkjdeohmiaaW.PrintWords Go.Proofs.YtghhjkjdeohmiaaW.PrintLast Go.Proofs.YtghhjkjdeohmiaaW.PrintMore
attribute [local go_sem] max2_int min2_int max_two min_two max_three min_three max_four min_four   -- for this text's walks alone
set_option linter.unusedVariables false
set_option linter.unusedSimpArgs false

/-! ### least_Put: function 10 -/
theorem drop28 (l : List S28) (j : Nat) (h : j < l.length) : l.drop j = rd_T28 l j :: l.drop (j + 1) := by
  rw [List.drop_eq_getElem_cons h]
  congr 1
  unfold rd_T28
  simp [List.getD_eq_getElem?_getD, h]
/-- The first place whose mark is such, or -1. -/
def ix28 (p : S28 → Bool) : List S28 → Int → Int
  | [], _ => -1
  | m :: l, i => if p m = true then i else ix28 p l (i + 1)
set_option maxHeartbeats 1600000 in
theorem put1.calls (m : S28) (g : Nat) (n : Int) (W : World) (hg : W.heap[g]? = some (.cells #[.int .i64 n] 3 (0, 0))) :
    Calls Try.prog 23 #[.agg #[.int .i64 m.f0, .int .i64 m.f1], .pointer (some ⟨g, 0, none⟩)] W fun e w' => e = .returned (.bool (decide (m.f1 ≥ n))) ∧ Below W.heap.size W w' := by
  have HG := Aside0.mk hg
  have hgl : g < W.heap.size := blk_lt hg
  have hc : W.cell? ⟨g, 0, none⟩ = some (.int .i64 n) := (blk_cell hg 0).trans rfl
  clear hg
  go_enter Try.func23, Try.ntmps23
  go_wp2
  go_ret
  exact ⟨rfl, by repeat (first | exact Below.refl _ _ | apply below_alloc)⟩
set_option maxHeartbeats 1600000 in
theorem put2.calls (m : S28) (g1 g2 : Nat) (at_ win : Int) (W : World) (hg1 : W.heap[g1]? = some (.cells #[.int .i64 at_] 3 (0, 0))) (hg2 : W.heap[g2]? = some (.cells #[.int .i64 win] 3 (0, 0))) :
    Calls Try.prog 24 #[.agg #[.int .i64 m.f0, .int .i64 m.f1], .pointer (some ⟨g1, 0, none⟩), .pointer (some ⟨g2, 0, none⟩)] W fun e w' => e = .returned (.bool (decide (m.f0 ≥ wrap64 (at_ - win)))) ∧ Below W.heap.size W w' := by
  have hgl1 : g1 < W.heap.size := blk_lt hg1
  have hgl2 : g2 < W.heap.size := blk_lt hg2
  have hc1 : W.cell? ⟨g1, 0, none⟩ = some (.int .i64 at_) := (blk_cell hg1 0).trans rfl
  have hc2 : W.cell? ⟨g2, 0, none⟩ = some (.int .i64 win) := (blk_cell hg2 0).trans rfl
  clear hg1 hg2
  go_enter Try.func24, Try.ntmps24
  go_wp2
  go_ret
  exact ⟨rfl, by repeat (first | exact Below.refl _ _ | apply below_alloc)⟩
set_option maxHeartbeats 1600000 in
set_option maxRecDepth 100000 in
theorem index1.calls (g : Nat) (n : Int) (A0 : Option Addr) (c0 : Nat) (l0 : List (S28)) (w : World) (hr0 : Kd.C k28 w A0 l0.length l0) (hc0 : l0.length ≤ c0) (hlim : l0.length ≤ 1000001) (hg : w.heap[g]? = some (.cells #[.int .i64 n] 3 (0, 0))) :
    Calls Try.prog 22 #[.slice A0 l0.length c0, .func (.func 23) #[] #[.pointer (some ⟨g, 0, none⟩)]] w fun e w' => e = .returned (.int .i64 (ix28 (fun m => decide (m.f1 ≥ n)) l0 0)) ∧ Below w.heap.size w w' := by
  have HR := Aside0.mk hr0
  have HGhg := Aside0.mk hg
  have hglhg := blk_lt hg
  clear hr0 hg
  go_enter Try.func22, Try.ntmps22
  go_wp2
  go_loopw [8] (fun i wr => ∃ (j : Nat), j ≤ l0.length ∧ i = .int .i64 j ∧ Aside0 (ix28 (fun m => decide (m.f1 ≥ n)) (l0.drop j) j = ix28 (fun m => decide (m.f1 ≥ n)) l0 0) ∧ Aside0 (Below w.heap.size w wr)) (fun i _ => l0.length - (intOf i).toNat)
  case atStart =>
    exact ⟨0, Nat.zero_le _, rfl, ⟨rfl⟩, ⟨Below.refl _ _⟩⟩
  case round =>
    obtain ⟨j, hj, rfl, HQ, HB⟩ := hrel
    by_cases hlt : j < l0.length
    · obtain ⟨ad, e_, hx0, hx1⟩ := at_T28 HR.out j (by omega) (by omega)
      cases e_
      replace hx0 := (HB.out.cell (World.block_lt_of_cell? w _ hx0)).trans hx0
      replace hx1 := (HB.out.cell (World.block_lt_of_cell? w _ hx1)).trans hx1
      simp only [Int.toNat_natCast] at hx0 hx1
      have hq := HQ.out
      rw [drop28 l0 j hlt] at hq
      generalize rd_T28 l0 (j : Int) = m at *
      simp only [ix28] at hq
      have HQ2 := Aside0.mk hq
      clear HQ hq
      go_wp2_with fail
      refine (put1.calls m g n _ ((HB.out.block g hglhg).trans HGhg.out)).mono ?_
      rintro ev w1 ⟨rfl, hb1⟩
      have HB1 := Aside0.mk (below_step HB.out hb1)
      clear hb1 hx0 hx1 HB
      by_cases hp : m.f1 ≥ n
      · have hd : decide (m.f1 ≥ n) = true := decide_eq_true hp
        have HQ3 := Aside0.mk HQ2.out
        clear HQ2
        have HE : Aside0 ((j : Int) = ix28 (fun m => decide (m.f1 ≥ n)) l0 0) := ⟨by have h_ := HQ3.out; rw [if_pos hd] at h_; exact h_⟩
        clear HQ3 hp
        go_wp2
        go_ret
        exact ⟨by rw [← HE.out]; rfl, HB1.out⟩
      · have hd : decide (m.f1 ≥ n) = false := decide_eq_false hp
        have HE : Aside0 (ix28 (fun m => decide (m.f1 ≥ n)) (l0.drop (j + 1)) ((j + 1 : Nat) : Int) = ix28 (fun m => decide (m.f1 ≥ n)) l0 0) := ⟨by have h_ := HQ2.out; rw [if_neg (fun e => absurd (hd.symm.trans e) (by simp))] at h_; exact h_⟩
        clear HQ2 hp
        go_wp2
        go_roundw
        case rel => exact ⟨j + 1, by omega, by go_num, HE, HB1⟩
        case measure => simp [intOf]; omega
    · have hjl : j = l0.length := by omega
      subst hjl
      have hq := HQ.out
      rw [List.drop_length] at hq
      simp only [ix28] at hq
      have HE := Aside0.mk hq
      clear HQ hq
      go_wp2
      go_ret
      exact ⟨by rw [← HE.out]; rfl, HB.out⟩
set_option maxHeartbeats 1600000 in
set_option maxRecDepth 100000 in
theorem index2.calls (g1 g2 : Nat) (at_ win : Int) (A0 : Option Addr) (c0 : Nat) (l0 : List (S28)) (w : World) (hr0 : Kd.C k28 w A0 l0.length l0) (hc0 : l0.length ≤ c0) (hlim : l0.length ≤ 1000001) (hg1 : w.heap[g1]? = some (.cells #[.int .i64 at_] 3 (0, 0))) (hg2 : w.heap[g2]? = some (.cells #[.int .i64 win] 3 (0, 0))) :
    Calls Try.prog 22 #[.slice A0 l0.length c0, .func (.func 24) #[] #[.pointer (some ⟨g1, 0, none⟩), .pointer (some ⟨g2, 0, none⟩)]] w fun e w' => e = .returned (.int .i64 (ix28 (fun m => decide (m.f0 ≥ wrap64 (at_ - win))) l0 0)) ∧ Below w.heap.size w w' := by
  have HR := Aside0.mk hr0
  have HGhg1 := Aside0.mk hg1
  have hglhg1 := blk_lt hg1
  have HGhg2 := Aside0.mk hg2
  have hglhg2 := blk_lt hg2
  clear hr0 hg1 hg2
  go_enter Try.func22, Try.ntmps22
  go_wp2
  go_loopw [8] (fun i wr => ∃ (j : Nat), j ≤ l0.length ∧ i = .int .i64 j ∧ Aside0 (ix28 (fun m => decide (m.f0 ≥ wrap64 (at_ - win))) (l0.drop j) j = ix28 (fun m => decide (m.f0 ≥ wrap64 (at_ - win))) l0 0) ∧ Aside0 (Below w.heap.size w wr)) (fun i _ => l0.length - (intOf i).toNat)
  case atStart =>
    exact ⟨0, Nat.zero_le _, rfl, ⟨rfl⟩, ⟨Below.refl _ _⟩⟩
  case round =>
    obtain ⟨j, hj, rfl, HQ, HB⟩ := hrel
    by_cases hlt : j < l0.length
    · obtain ⟨ad, e_, hx0, hx1⟩ := at_T28 HR.out j (by omega) (by omega)
      cases e_
      replace hx0 := (HB.out.cell (World.block_lt_of_cell? w _ hx0)).trans hx0
      replace hx1 := (HB.out.cell (World.block_lt_of_cell? w _ hx1)).trans hx1
      simp only [Int.toNat_natCast] at hx0 hx1
      have hq := HQ.out
      rw [drop28 l0 j hlt] at hq
      generalize rd_T28 l0 (j : Int) = m at *
      simp only [ix28] at hq
      have HQ2 := Aside0.mk hq
      clear HQ hq
      go_wp2_with fail
      refine (put2.calls m g1 g2 at_ win _ ((HB.out.block g1 hglhg1).trans HGhg1.out) ((HB.out.block g2 hglhg2).trans HGhg2.out)).mono ?_
      rintro ev w1 ⟨rfl, hb1⟩
      have HB1 := Aside0.mk (below_step HB.out hb1)
      clear hb1 hx0 hx1 HB
      by_cases hp : m.f0 ≥ wrap64 (at_ - win)
      · have hd : decide (m.f0 ≥ wrap64 (at_ - win)) = true := decide_eq_true hp
        have HQ3 := Aside0.mk HQ2.out
        clear HQ2
        have HE : Aside0 ((j : Int) = ix28 (fun m => decide (m.f0 ≥ wrap64 (at_ - win))) l0 0) := ⟨by have h_ := HQ3.out; rw [if_pos hd] at h_; exact h_⟩
        clear HQ3 hp
        go_wp2
        go_ret
        exact ⟨by rw [← HE.out]; rfl, HB1.out⟩
      · have hd : decide (m.f0 ≥ wrap64 (at_ - win)) = false := decide_eq_false hp
        have HE : Aside0 (ix28 (fun m => decide (m.f0 ≥ wrap64 (at_ - win))) (l0.drop (j + 1)) ((j + 1 : Nat) : Int) = ix28 (fun m => decide (m.f0 ≥ wrap64 (at_ - win))) l0 0) := ⟨by have h_ := HQ2.out; rw [if_neg (fun e => absurd (hd.symm.trans e) (by simp))] at h_; exact h_⟩
        clear HQ2 hp
        go_wp2
        go_roundw
        case rel => exact ⟨j + 1, by omega, by go_num, HE, HB1⟩
        case measure => simp [intOf]; omega
    · have hjl : j = l0.length := by omega
      subst hjl
      have hq := HQ.out
      rw [List.drop_length] at hq
      simp only [ix28] at hq
      have HE := Aside0.mk hq
      clear HQ hq
      go_wp2
      go_ret
      exact ⟨by rw [← HE.out]; rfl, HB.out⟩
/-- Put's answer, its marks being good ones and the time not before the last. -/
def least_Put.put (l0 : List S28) (a1 a2 a3 : Int) : List S28 :=
  (if ix28 (fun m => decide (m.f1 ≥ a3)) l0 0 < 0 then l0 else l0.take (ix28 (fun m => decide (m.f1 ≥ a3)) l0 0).toNat) ++ [⟨a2, a3⟩]
def least_Put.go (l0 : List S28) (a1 a2 a3 : Int) : Option (List S28 × Int) :=
  if 0 ≤ ix28 (fun m => decide (m.f0 ≥ wrap64 (a2 - a1))) (least_Put.put l0 a1 a2 a3) 0 then some ((least_Put.put l0 a1 a2 a3).drop (ix28 (fun m => decide (m.f0 ≥ wrap64 (a2 - a1))) (least_Put.put l0 a1 a2 a3) 0).toNat, 0) else none
def least_Put.f (k : Nat) (l0 : List S28) (a1 : Int) (a2 : Int) (a3 : Int) : Option (List S28 × Int) :=
  if l0.length ≤ 1000000 then
    (least_Check.f k l0).bind fun t =>
      if t = true then
        (least_is.f a2).bind fun s =>
          if s = true then
            if a1 < 0 then some (l0, 51)
            else if 0 < l0.length then
              if a2 < (rd_T28 l0 (l0.length - 1)).f0 then some (l0, 50) else least_Put.go l0 a1 a2 a3
            else least_Put.go l0 a1 a2 a3
          else some (l0, 51)
      else some (l0, 51)
  else none
theorem least_Put.mono : ∀ a0 a1 a2 a3 k, LeO (least_Put.f k a0 a1 a2 a3) (least_Put.f (k + 1) a0 a1 a2 a3) := by
  intro a0 a1 a2 a3 k
  unfold least_Put.f
  exact LeO.ite (LeO.bind (least_Check.mono a0 k) (fun _ => LeO.refl _)) (LeO.refl _)
theorem cut_hm {P : Program} (t e : TypeId) {i : TypeInfo} (ht : P.underlying t = some (.slice e)) (hi : P.info? e = some i) (A : Option Addr) (n c : Nat) (j : Nat) (hm : j ≤ c) :
    ∀ W : World, (Instr.slice t (.slice A n c) none (some (.int .i64 (j : Int))) (some (.int .i64 (j : Int)))).run P W = .ok (.slice A j j) W := by
  intro W
  have hel : P.elem t = e := by simp [Program.elem, ht]
  have hu : P.underlying t = some (.slice (P.elem t)) := by rw [hel]; exact ht
  have ha : (A.map fun x => x.add 0) = A := by cases A <;> simp [Addr.add]
  rw [run_slice_hm W t A n c hu .i64 .i64 j j (by omega) (by omega) (by omega), hel]
  simp [sizeOf, typeInfo, hi, sliced, Result.andThen, ha]
theorem row1 {W : World} {g : Nat} {a b : Int} (hg : W.heap[g]? = some (.cells #[.int .i64 a, .int .i64 b] 28 (0, 0))) : ReadsRow (k28.K W) k28.sz W (some ⟨g, 0, none⟩) 1 [(⟨a, b⟩ : S28)] := by
  have h0 : W.cell? ⟨g, 0, none⟩ = some (.int .i64 a) := (blk_cell hg 0).trans rfl
  have h1 : W.cell? ⟨g, 1, none⟩ = some (.int .i64 b) := (blk_cell hg 1).trans rfl
  refine ⟨rfl, by omega, fun _ => ⟨_, rfl, fun j p hp => ?_⟩⟩
  obtain rfl : j = 0 := by
    rcases j with _ | j
    · rfl
    · simp at hp
  obtain rfl := Option.some.inj hp
  refine ⟨_, rfl, k28_mk W _, fun i u hu => ?_⟩
  rcases i with _ | _ | i
  · exact h0.trans hu
  · exact h1.trans hu
  · simp at hu
theorem arm_own {w Z Y : World} {v : Value} {xs : List S28} {a1 a2 a3 : Int} (h1 : Z.heap[w.heap.size]? = some (.cells #[.int .i64 a1] 3 (0, 0))) (h2 : Z.heap[w.heap.size + 1]? = some (.cells #[.int .i64 a2] 3 (0, 0))) (h3 : Z.heap[w.heap.size + 1 + 1]? = some (.cells #[.int .i64 a3] 3 (0, 0)))
    (hb : Below w.heap.size w Z) (hR : Kd.R k28 28 Y Z.heap.size (fun _ => True) v xs) (hB : Below Z.heap.size Z Y) :
    Aside0 (Y.heap[w.heap.size]? = some (.cells #[.int .i64 a1] 3 (0, 0))) ∧ Aside0 (Y.heap[w.heap.size + 1]? = some (.cells #[.int .i64 a2] 3 (0, 0))) ∧ Aside0 (Y.heap[w.heap.size + 1 + 1]? = some (.cells #[.int .i64 a3] 3 (0, 0))) ∧ Aside0 (Below w.heap.size w Y) ∧
    Aside0 (Kd.R k28 28 Y w.heap.size (fun b => b ≠ w.heap.size ∧ b ≠ w.heap.size + 1 ∧ b ≠ w.heap.size + 1 + 1) v xs) ∧ Y.cell? ⟨w.heap.size + 1, 0, none⟩ = some (.int .i64 a2) ∧ Y.cell? ⟨w.heap.size + 1 + 1, 0, none⟩ = some (.int .i64 a3) ∧ w.heap.size + 1 < Y.heap.size ∧ w.heap.size + 1 + 1 < Y.heap.size := by
  have hl := blk_lt h3
  have g3 := blk_below h3 hB
  have g2 := blk_below h2 hB
  have hl' := blk_lt g3
  exact ⟨⟨blk_below h1 hB⟩, ⟨g2⟩, ⟨g3⟩, ⟨below_step hb hB⟩, ⟨Kd.R_lower (Kd.R_mono (Kd.R_bound hR) (fun b hb => by have := hb.2.1; exact ⟨by omega, by omega, by omega⟩)) hb.size⟩, (blk_cell g2 0).trans rfl, (blk_cell g3 0).trans rfl, by omega, hl'⟩
theorem app1 {ops : Array Oper} {o : Oper} {a : Act} {Q : Exit → Act → World → Prop} {Kc : Act → World → Prop} {E : Prop} {w0 W : World} (base : Nat) (hg : o.guard = none) (s x : Operand)
    (ho : o.op = .call { callee := .builtin .append, args := #[s, x], argTypes := #[22, 22] }) (v : Value) (xs : List S28) (p q : Int) (ok : Nat → Prop) (hs : a.eval s = v) (hx : a.eval x = .slice (some ⟨W.heap.size, 0, none⟩) 1 1) (hfresh : ∀ k, W.heap.size ≤ k → ok k)
    (HO : Kd.R k28 28 W base ok v xs) (HB : Below base w0 W) (hbase : base ≤ W.heap.size) (hl : (xs.length + 1) * 16 ≤ 140737488355328)
    (h : ∀ v1 w1, Kd.R k28 28 w1 base ok v1 (xs ++ [⟨p, q⟩]) → Below base w0 w1 → W.grownBy w1 v.ownBlock → Kc (a.put o.dst v1) w1) :
    if Region.wanted o (yielded ops a.tmps) = true then Oper.wp Try.prog o a (W.alloc (.cells #[.int .i64 p, .int .i64 q] 28)) Kc Q else E := by
  have hw : Region.wanted o (yielded ops a.tmps) = true := by simp [Region.wanted, hg]
  have h_ := Kd.R_append_step (P := Try.prog) (Q := Q) k28 (w0 := w0) base hw s x 22 28 (.agg #[(.int .i64 0), (.int .i64 0)]) 16 ho Try.underlying22 info28 rfl (by decide) (by omega) v xs (⟨p, q⟩ : S28) [.int .i64 p, .int .i64 q] ok (fun _ => False) hs hx (k28_mkM _ _ _ _) (fun _ h => h.elim) hfresh HO HB hbase hl (fun v1 w1 a1 a2 a3 _ => h v1 w1 a1 a2 a3)
  rw [if_pos hw] at h_ ⊢
  exact h_
theorem app2 {ops : Array Oper} {o : Oper} {a : Act} {Q : Exit → Act → World → Prop} {Kc : Act → World → Prop} {E : Prop} {w0 W : World} (base : Nat) (hg : o.guard = none) (s x : Operand)
    (ho : o.op = .call { callee := .builtin .append, args := #[s, x], argTypes := #[22, 22] }) (v : Value) (xs : List S28) (p q : Int) (g : Nat) (ok : Nat → Prop) (hs : a.eval s = v) (hx : a.eval x = .slice (some ⟨g, 0, none⟩) 1 1) (hfresh : ∀ k, W.heap.size ≤ k → ok k)
    (HO : Kd.R k28 28 W base ok v xs) (HG : W.heap[g]? = some (.cells #[.int .i64 p, .int .i64 q] 28 (0, 0))) (HB : Below base w0 W) (hbase : base ≤ W.heap.size) (hl : (xs.length + 1) * 16 ≤ 140737488355328)
    (h : ∀ v1 w1, Kd.R k28 28 w1 base ok v1 (xs ++ [⟨p, q⟩]) → Below base w0 w1 → W.grownBy w1 v.ownBlock → Kc (a.put o.dst v1) w1) :
    if Region.wanted o (yielded ops a.tmps) = true then Oper.wp Try.prog o a W Kc Q else E := by
  have hw : Region.wanted o (yielded ops a.tmps) = true := by simp [Region.wanted, hg]
  have h_ := Kd.R_append_rows_step (P := Try.prog) (Q := Q) k28 (Rr := k28.K W) (w0 := w0) base hw s x 22 28 (.agg #[(.int .i64 0), (.int .i64 0)]) 16 ho Try.underlying22 info28 rfl (by decide) (by omega) v xs [(⟨p, q⟩ : S28)] _ 1 1 ok (fun _ => False) hs hx HO (row1 HG) (fun x cs h => by obtain rfl := k28_open h; exact k28_mkM _ _ _ _) (fun _ h => h.elim) hfresh HB hbase hl (fun v1 w1 a1 a2 a3 _ => h v1 w1 a1 a2 a3)
  rw [if_pos hw] at h_ ⊢
  exact h_
theorem arm_app {w W w1 : World} {v : Value} {xs : List S28} {a1 a2 : Int} (h1 : W.heap[w.heap.size]? = some (.cells #[.int .i64 a1] 3 (0, 0))) (h2 : W.heap[w.heap.size + 1]? = some (.cells #[.int .i64 a2] 3 (0, 0)))
    (hR : Kd.R k28 28 W w.heap.size (fun b => b ≠ w.heap.size ∧ b ≠ w.heap.size + 1 ∧ b ≠ w.heap.size + 1 + 1) v xs) (hg : W.grownBy w1 v.ownBlock) :
    Aside0 (w1.heap[w.heap.size]? = some (.cells #[.int .i64 a1] 3 (0, 0))) ∧ Aside0 (w1.heap[w.heap.size + 1]? = some (.cells #[.int .i64 a2] 3 (0, 0))) := by
  refine ⟨⟨(hg.block _ (blk_lt h1) (fun e => (hR.1 _ e.symm).1 rfl)).trans h1⟩, ⟨(hg.block _ (blk_lt h2) (fun e => (hR.1 _ e.symm).2.1 rfl)).trans h2⟩⟩
theorem ix28_range (p : S28 → Bool) : ∀ (l : List S28) (i : Int), ix28 p l i = -1 ∨ (i ≤ ix28 p l i ∧ ix28 p l i < i + l.length)
  | [], i => .inl rfl
  | m :: l, i => by
    unfold ix28
    by_cases h : p m = true
    · rw [if_pos h]; right; simp; omega
    · rw [if_neg h]
      rcases ix28_range p l (i + 1) with h1 | ⟨h1, h2⟩
      · exact .inl h1
      · right; simp only [List.length_cons]; omega
theorem three (w W : World) (a1 a2 a3 : Int) (hW : W = ((w.alloc (.cells #[.int .i64 a1] 3)).alloc (.cells #[.int .i64 a2] 3)).alloc (.cells #[.int .i64 a3] 3)) :
    W.heap[w.heap.size]? = some (.cells #[.int .i64 a1] 3 (0, 0)) ∧ W.heap[w.heap.size + 1]? = some (.cells #[.int .i64 a2] 3 (0, 0)) ∧ W.heap[w.heap.size + 1 + 1]? = some (.cells #[.int .i64 a3] 3 (0, 0)) ∧ Below w.heap.size w W := by
  subst hW
  refine ⟨blk_alloc (blk_alloc (new_row _ _) _) _, blk_alloc ?_ _, ?_, below_alloc (below_alloc (below_alloc (Below.refl _ _) _) _) _⟩
  · have h := new_row (w.alloc (.cells #[.int .i64 a1] 3)) (.cells #[.int .i64 a2] 3)
    simpa using h
  · have h := new_row ((w.alloc (.cells #[.int .i64 a1] 3)).alloc (.cells #[.int .i64 a2] 3)) (.cells #[.int .i64 a3] 3)
    simpa using h
set_option maxHeartbeats 3200000 in
set_option maxRecDepth 100000 in
theorem least_Put.calls (k : Nat) (A0 : Option Addr) (c0 : Nat) (l0 : List (S28)) (a1 : Int) (a2 : Int) (a3 : Int) (r1 : List (S28)) (r2 : Int) (w : World) (hr0 : Kd.C k28 w A0 l0.length l0) (hc0 : l0.length ≤ c0) (h : least_Put.f k l0 a1 a2 a3 = some (r1, r2)) :
    Calls Try.prog 10 #[.slice A0 l0.length c0, .int .i64 a1, .int .i64 a2, .int .i64 a3] w fun e w' => ∃ v0_ : Value, e = .returned (.tuple #[v0_, .int .i64 r2]) ∧ Kd.V k28 28 w' w.heap.size (fun k_ => w.heap.size ≤ k_) v0_ r1 ∧ Below w.heap.size w w' := by
  unfold least_Put.f at h
  by_cases hlim : l0.length ≤ 1000000
  · rw [if_pos hlim] at h
    obtain ⟨t, ht, h⟩ := Option.bind_eq_some_iff.mp h
    have HC := Aside0.mk ht
    have HR := Aside0.mk hr0
    have H := Aside0.mk h
    clear ht hr0
    clear h
    go_enter Try.func10, Try.ntmps10
    go_wp2_with fail
    refine (least_Check.calls k A0 c0 l0 t _ (Kd.C_below HR.out (by repeat (first | exact Below.refl _ _ | apply below_alloc))) hc0 HC.out).mono ?_
    rintro ev W ⟨rfl, hdr⟩
    obtain ⟨h1, h2, h3, hb⟩ := three w _ a1 a2 a3 rfl
    have HB := Aside0.mk (below_step hb hdr)
    have hg1 := blk_below h1 hdr
    have hg2 := blk_below h2 hdr
    have hg3 := blk_below h3 hdr
    have hc1 : W.cell? ⟨w.heap.size, 0, none⟩ = some (.int .i64 a1) := (blk_cell hg1 0).trans rfl
    have hc2 : W.cell? ⟨w.heap.size + 1, 0, none⟩ = some (.int .i64 a2) := (blk_cell hg2 0).trans rfl
    have hc3 : W.cell? ⟨w.heap.size + 1 + 1, 0, none⟩ = some (.int .i64 a3) := (blk_cell hg3 0).trans rfl
    have HG1 := Aside0.mk hg1
    have HG2 := Aside0.mk hg2
    have HG3 := Aside0.mk hg3
    have HRW := Aside0.mk (Kd.C_below HR.out (HB.out))
    have hl1 : w.heap.size < W.heap.size := blk_lt hg1
    have hl2 : w.heap.size + 1 < W.heap.size := blk_lt hg2
    have hl3 : w.heap.size + 1 + 1 < W.heap.size := blk_lt hg3
    clear hg1 hg2 hg3 hdr h1 h2 h3 hb HC HR
    have owned : ∀ X v, Below w.heap.size w X → Kd.R k28 28 X w.heap.size (fun _ => True) v r1 → Kd.V k28 28 X w.heap.size (fun k_ => w.heap.size ≤ k_) v r1 := by
      intro X v _ hR
      exact Kd.V_mono (Kd.R_V (base' := w.heap.size) (Kd.R_bound hR)) (fun b hb => hb.2.1)
    have OW := Aside0.mk owned
    clear owned
    cases t with
    | false =>
      have hq := H.out
      simp only [Bool.false_eq_true, if_false, Option.some.injEq, Prod.mk.injEq] at hq
      obtain ⟨rfl, rfl⟩ := hq
      clear H
      go_wp2_with fail
      refine (least_own.calls A0 c0 l0 l0 _ HRW.out hc0 (by unfold least_own.f; rw [if_pos hlim])).mono ?_
      rintro ev X ⟨v, rfl, hR, hB⟩
      have HR2 := Aside0.mk (Kd.R_lower hR HB.out.size)
      have HB2 := Aside0.mk (below_step HB.out hB)
      clear hR hB
      go_wp2
      go_ret2
      exact ⟨_, rfl, OW.out _ _ HB2.out HR2.out, HB2.out⟩
    | true =>
      have hq := H.out
      simp only [if_true] at hq
      obtain ⟨s, hs, hq⟩ := Option.bind_eq_some_iff.mp hq
      have HS := Aside0.mk hs
      have HQ := Aside0.mk hq
      clear hs hq H
      go_wp2_with fail
      refine (least_is.calls a2 s _ HS.out).mono ?_
      rintro ev X0 ⟨rfl, hdr⟩
      obtain ⟨nd, rfl⟩ := hdr.out
      clear hdr
      cases s with
      | false =>
        have hq := HQ.out
        simp only [Bool.false_eq_true, if_false, Option.some.injEq, Prod.mk.injEq] at hq
        obtain ⟨rfl, rfl⟩ := hq
        clear HQ
        go_wp2_with fail
        refine (least_own.calls A0 c0 l0 l0 _ (Kd.C_drewN HRW.out _) hc0 (by unfold least_own.f; rw [if_pos hlim])).mono ?_
        rintro ev X ⟨v, rfl, hR, hB⟩
        have HR2 := Aside0.mk (Kd.R_lower hR (pw_below_drewN HB.out _).size)
        have HB2 := Aside0.mk (below_step (pw_below_drewN HB.out _) hB)
        clear hR hB
        go_wp2
        go_ret2
        exact ⟨_, rfl, OW.out _ _ HB2.out HR2.out, HB2.out⟩
      | true =>
        have hq := HQ.out
        simp only [if_true] at hq
        have HQ := Aside0.mk hq
        clear hq
        by_cases hw : a1 < 0
        · have hwd : decide (a1 < 0) = true := decide_eq_true hw
          have hq := HQ.out
          rw [if_pos hw] at hq
          simp only [Option.some.injEq, Prod.mk.injEq] at hq
          obtain ⟨rfl, rfl⟩ := hq
          clear HQ
          go_wp2_with fail
          refine (least_own.calls A0 c0 l0 l0 _ (Kd.C_drewN HRW.out _) hc0 (by unfold least_own.f; rw [if_pos hlim])).mono ?_
          rintro ev X ⟨v, rfl, hR, hB⟩
          have HR2 := Aside0.mk (Kd.R_lower hR (pw_below_drewN HB.out _).size)
          have HB2 := Aside0.mk (below_step (pw_below_drewN HB.out _) hB)
          clear hR hB
          go_wp2
          go_ret2
          exact ⟨_, rfl, OW.out _ _ HB2.out HR2.out, HB2.out⟩
        · have hwd : decide (a1 < 0) = false := decide_eq_false hw
          have hq := HQ.out
          rw [if_neg hw] at hq
          have HQ := Aside0.mk hq
          clear hq hw
          by_cases hpos : 0 < l0.length
          · have hq := HQ.out
            rw [if_pos hpos] at hq
            have HQ := Aside0.mk hq
            clear hq
            obtain ⟨ad, e_, hx0, hx1⟩ := at_T28 HRW.out ((l0.length : Int) - 1) (by omega) (by omega)
            cases e_
            rw [show ((l0.length : Int) - 1).toNat = l0.length - 1 by omega] at hx0
            clear hx1
            have hwr : IntKind.i64.wrap ((l0.length : Int) - 1) = (l0.length : Int) - 1 := IntWalk.i64_in _ (by omega)
            have p0 : 0 ≤ (l0.length : Int) - 1 := by omega
            have p1 : (l0.length : Int) - 1 < (l0.length : Int) := by omega
            have p2 : 1 ≤ (l0.length : Int) := by omega
            have p3 : 1 ≤ l0.length := by omega
            have hpd : decide ((l0.length : Int) > 0) = true := decide_eq_true (by omega)
            by_cases hb : a2 < (rd_T28 l0 ((l0.length : Int) - 1)).f0
            · have hbd : decide (a2 < (rd_T28 l0 ((l0.length : Int) - 1)).f0) = true := decide_eq_true hb
              have hq := HQ.out
              rw [if_pos hb] at hq
              simp only [Option.some.injEq, Prod.mk.injEq] at hq
              obtain ⟨rfl, rfl⟩ := hq
              clear HQ hb
              go_wp2_with fail
              go_quiet (fail)
              go_wp2_with fail
              refine (least_own.calls _ c0 l0 l0 _ (Kd.C_drewN HRW.out _) hc0 (by unfold least_own.f; rw [if_pos hlim])).mono ?_
              rintro ev X ⟨v, rfl, hR, hB⟩
              have HR2 := Aside0.mk (Kd.R_lower hR (pw_below_drewN HB.out _).size)
              have HB2 := Aside0.mk (below_step (pw_below_drewN HB.out _) hB)
              clear hR hB
              go_wp2
              go_ret2
              exact ⟨_, rfl, OW.out _ _ HB2.out HR2.out, HB2.out⟩
            · have hbd : decide (a2 < (rd_T28 l0 ((l0.length : Int) - 1)).f0) = false := decide_eq_false hb
              have hq := HQ.out
              rw [if_neg hb] at hq
              have HGO := Aside0.mk hq
              clear hq hb HQ
              go_wp2_with fail
              go_quiet (fail)
              have hm1 := ix28_range (fun m => decide (m.f1 ≥ a3)) l0 0
              go_wp2_with fail
              refine (index1.calls (w.heap.size + 1 + 1) a3 _ c0 l0 _ (Kd.C_drewN HRW.out _) hc0 (by omega) (blk_drewN HG3.out _)).mono ?_
              rintro ev X ⟨rfl, hB⟩
              have CX := Aside0.mk (Kd.C_below (Kd.C_drewN HRW.out _) hB)
              have HBX := Aside0.mk (below_step (pw_below_drewN HB.out _) hB)
              have GX1 := Aside0.mk (blk_below (blk_drewN HG1.out _) hB)
              have GX2 := Aside0.mk (blk_below (blk_drewN HG2.out _) hB)
              have GX3 := Aside0.mk (blk_below (blk_drewN HG3.out _) hB)
              have HPUT := Aside0.mk (show least_Put.put l0 a1 a2 a3 = (if ix28 (fun m => decide (m.f1 ≥ a3)) l0 0 < 0 then l0 else l0.take (ix28 (fun m => decide (m.f1 ≥ a3)) l0 0).toNat) ++ [⟨a2, a3⟩] from rfl)
              clear hB HB HG1 HG2 HG3 HRW hl1 hl2 hl3 hc1 hc2 hc3 hx0 hwr p0 p1 p2 p3 hpd hbd hwd
              generalize ix28 (fun m => decide (m.f1 ≥ a3)) l0 0 = q at *
              go_upto_if 49 with (fail)
              go_cut [10] (fun v wx => ∃ m : Nat, v = .int .i64 (m : Int) ∧ m ≤ l0.length ∧ Aside0 (least_Put.put l0 a1 a2 a3 = l0.take m ++ [⟨a2, a3⟩]) ∧ X = wx)
              case first =>
                by_cases hq : q < 0
                · have hqd : decide (q < 0) = true := decide_eq_true hq
                  have HP : Aside0 (least_Put.put l0 a1 a2 a3 = l0.take l0.length ++ [⟨a2, a3⟩]) := ⟨by rw [HPUT.out, if_pos hq, List.take_length]⟩
                  clear HPUT
                  go_wp2
                  go_meet
                  exact ⟨l0.length, rfl, Nat.le_refl _, HP, rfl⟩
                · obtain ⟨m, rfl⟩ : ∃ m : Nat, q = m := ⟨q.toNat, by omega⟩
                  have hqd : decide ((m : Int) < 0) = false := decide_eq_false hq
                  have HP : Aside0 (least_Put.put l0 a1 a2 a3 = l0.take m ++ [⟨a2, a3⟩]) := ⟨by rw [HPUT.out, if_neg hq]; rfl⟩
                  clear HPUT hq
                  go_wp2
                  go_meet
                  exact ⟨m, rfl, by omega, HP, rfl⟩
              case rest =>
                obtain ⟨m, rfl, hm, HP, rfl⟩ := hcut
                clear HPUT hm1
                have hsl := cut_hm (P := Try.prog) 22 28 Try.underlying22 (Classical.choose_spec infoN28).1 (some ad) l0.length c0 m (by omega)
                have hown : ∀ Y, Kd.C k28 Y (some ad) l0.length l0 → Calls Try.prog 21 #[.slice (some ad) m m] Y fun e w' => ∃ v0_ : Value, e = .returned (v0_) ∧ Kd.R k28 28 w' Y.heap.size (fun _ => True) v0_ (l0.take m) ∧ Below Y.heap.size Y w' := by
                  intro Y hY
                  have h_ := least_own.calls (some ad) m (l0.take m) (l0.take m) Y (Kd.C_take hY hm) (by rw [List.length_take]; omega) (by unfold least_own.f; rw [if_pos (by rw [List.length_take]; omega)])
                  rwa [List.length_take, Nat.min_eq_left hm] at h_
                have HOWN := Aside0.mk hown
                clear hown
                have hc2 : X.cell? ⟨w.heap.size + 1, 0, none⟩ = some (.int .i64 a2) := (blk_cell GX2.out 0).trans rfl
                have hc3 : X.cell? ⟨w.heap.size + 1 + 1, 0, none⟩ = some (.int .i64 a3) := (blk_cell GX3.out 0).trans rfl
                have hl2 := blk_lt GX2.out
                have hl3 := blk_lt GX3.out
                go_upto_region 8 with (fail)
                go_cut [11] (fun v wx => Aside0 (Kd.R k28 28 wx w.heap.size (fun b => b ≠ w.heap.size ∧ b ≠ w.heap.size + 1 ∧ b ≠ w.heap.size + 1 + 1) v (l0.take m ++ [⟨a2, a3⟩])) ∧ Aside0 (Below w.heap.size w wx) ∧ Aside0 (wx.heap[w.heap.size]? = some (.cells #[.int .i64 a1] 3 (0, 0))) ∧ Aside0 (wx.heap[w.heap.size + 1]? = some (.cells #[.int .i64 a2] 3 (0, 0))))
                case first =>
                  go_region_law (first
                    | (go_simp; go_at_call 21; refine (HOWN.out _ (by repeat (first | exact CX.out | refine Kd.C_alloc ?_ _ | refine Kd.C_drew ?_))).mono ?_; rintro ev Y ⟨v, rfl, hR, hB⟩; obtain ⟨GY1, GY2, GY3, HBY, HRY, hd2, hd3, hy2, hy3⟩ := arm_own (a1 := a1) (a2 := a2) (a3 := a3) (by repeat (first | exact GX1.out | refine blk_alloc ?_ _ | refine blk_drew ?_)) (by repeat (first | exact GX2.out | refine blk_alloc ?_ _ | refine blk_drew ?_)) (by repeat (first | exact GX3.out | refine blk_alloc ?_ _ | refine blk_drew ?_)) (by repeat (first | exact HBX.out | apply below_alloc | apply below_drew)) hR hB; (try have GL := Aside0.mk (blk_below (new_row X.drew (.cells #[.int .i64 a2, .int .i64 a3] 28)) hB)); clear hR hB)
                    | (refine app1 (w0 := w) w.heap.size (by rfl) (.tmp 56) (.tmp 60) (by rfl) _ (l0.take m) a2 a3 (fun b => b ≠ w.heap.size ∧ b ≠ w.heap.size + 1 ∧ b ≠ w.heap.size + 1 + 1) (by simp [Act.eval, Act.put]) (by simp [Act.eval, Act.put]) (fun b hb => ⟨by omega, by omega, by omega⟩) HRY.out HBY.out (by omega) (by rw [List.length_take]; omega) ?_; intro v1 w1 HO2 HB2 hgr; obtain ⟨GA1, GA2⟩ := arm_app GY1.out GY2.out HRY.out hgr; have HOA := Aside0.mk HO2; have HBA := Aside0.mk HB2; clear HO2 HB2 hgr)
                    | (refine app2 (w0 := w) w.heap.size (by rfl) (.tmp 56) (.tmp 60) (by rfl) _ (l0.take m) a2 a3 X.heap.size (fun b => b ≠ w.heap.size ∧ b ≠ w.heap.size + 1 ∧ b ≠ w.heap.size + 1 + 1) (by simp [Act.eval, Act.put]) (by simp [Act.eval, Act.put]) (fun b hb => ⟨by omega, by omega, by omega⟩) HRY.out GL.out HBY.out (by omega) (by rw [List.length_take]; omega) ?_; intro v1 w1 HO2 HB2 hgr; obtain ⟨GA1, GA2⟩ := arm_app GY1.out GY2.out HRY.out hgr; have HOA := Aside0.mk HO2; have HBA := Aside0.mk HB2; clear HO2 HB2 hgr))
                  all_goals (go_wp2_with fail; go_meet; exact ⟨HOA, HBA, GA1, GA2⟩)
                case rest =>
                  obtain ⟨HOA, HBA, GA1, GA2⟩ := hcut
                  clear hsl hc2 hc3 hl2 hl3 HOWN CX HBX GX1 GX2 GX3
                  have hq2 := HGO.out
                  unfold least_Put.go at hq2
                  rw [HP.out] at hq2
                  have hr2 := ix28_range (fun m => decide (m.f0 ≥ wrap64 (a2 - a1))) (l0.take m ++ [⟨a2, a3⟩]) 0
                  have hlen : (l0.take m ++ [(⟨a2, a3⟩ : S28)]).length = m + 1 := by rw [List.length_append, List.length_take, Nat.min_eq_left hm]; rfl
                  have HL := Aside0.mk hlen
                  rw [hlen] at hr2
                  generalize l0.take m ++ [(⟨a2, a3⟩ : S28)] = out at *
                  obtain ⟨A1, cA, rfl, hle, hC⟩ := Kd.R_reads HOA.out
                  have HQ3 := Aside0.mk hq2
                  have HCA := Aside0.mk hC
                  clear HGO hq2 hC hlen
                  go_wp2_with fail
                  refine (index2.calls (w.heap.size + 1) w.heap.size a2 a1 A1 cA out _ HCA.out hle (by have := HL.out; omega) GA2.out GA1.out).mono ?_
                  rintro ev Y ⟨rfl, hB⟩
                  generalize ix28 (fun m => decide (m.f0 ≥ wrap64 (a2 - a1))) out 0 = f at *
                  by_cases hf : 0 ≤ f
                  · have hq3 := HQ3.out
                    rw [if_pos hf] at hq3
                    simp only [Option.some.injEq, Prod.mk.injEq] at hq3
                    obtain ⟨rfl, rfl⟩ := hq3
                    have hfl : f ≤ out.length := by have := HL.out; omega
                    have hcut := cut_from (P := Try.prog) 22 28 .i64 Try.underlying22 (Classical.choose_spec infoN28).1 2 (Classical.choose_spec infoN28).2.2.1 A1 out.length cA f hf hfl
                    have HF : Aside0 (Kd.F k28 Y (fun b => w.heap.size ≤ b) (if cA = f.toNat then A1 else A1.map (·.add (f.toNat * 2))) (out.drop f.toNat).length (out.drop f.toNat)) := ⟨Kd.F_below (Kd.F_cut (m := f.toNat) (c := cA) (Kd.R_F (ok := fun b => w.heap.size ≤ b) (Kd.R_mono (Kd.R_bound HOA.out) (fun b hb => hb.2.1))) (by omega) hle) hB⟩
                    have HBY := Aside0.mk (below_step HBA.out hB)
                    have hck : cA - f.toNat ≥ out.length - f.toNat := by omega
                    clear HQ3 hB HOA HBA GA1 GA2 HCA
                    generalize (if cA = f.toNat then A1 else A1.map fun x => x.add (f.toNat * 2)) = A2 at *
                    go_wp2
                    go_ret2
                    exact ⟨_, rfl, ⟨A2, cA - f.toNat, by rw [List.length_drop]; rfl, by rw [List.length_drop]; exact hck, HF.out⟩, HBY.out⟩
                  · have hq3 := HQ3.out
                    rw [if_neg hf] at hq3
                    cases hq3
          · have hq := HQ.out
            rw [if_neg hpos] at hq
            have HGO := Aside0.mk hq
            have hpd : decide ((l0.length : Int) > 0) = false := decide_eq_false (by omega)
            have hpd2 : decide (0 < l0.length) = false := decide_eq_false (by omega)
            clear hq HQ
            go_wp2_with fail
            go_quiet (fail)
            have hm1 := ix28_range (fun m => decide (m.f1 ≥ a3)) l0 0
            go_wp2_with fail
            refine (index1.calls (w.heap.size + 1 + 1) a3 _ c0 l0 _ (Kd.C_drewN HRW.out _) hc0 (by omega) (blk_drewN HG3.out _)).mono ?_
            rintro ev X ⟨rfl, hB⟩
            have CX := Aside0.mk (Kd.C_below (Kd.C_drewN HRW.out _) hB)
            have HBX := Aside0.mk (below_step (pw_below_drewN HB.out _) hB)
            have GX1 := Aside0.mk (blk_below (blk_drewN HG1.out _) hB)
            have GX2 := Aside0.mk (blk_below (blk_drewN HG2.out _) hB)
            have GX3 := Aside0.mk (blk_below (blk_drewN HG3.out _) hB)
            have HPUT := Aside0.mk (show least_Put.put l0 a1 a2 a3 = (if ix28 (fun m => decide (m.f1 ≥ a3)) l0 0 < 0 then l0 else l0.take (ix28 (fun m => decide (m.f1 ≥ a3)) l0 0).toNat) ++ [⟨a2, a3⟩] from rfl)
            clear hB HB HG1 HG2 HG3 HRW hl1 hl2 hl3 hc1 hc2 hc3 hpd hpd2 hwd
            generalize ix28 (fun m => decide (m.f1 ≥ a3)) l0 0 = q at *
            go_upto_if 49 with (fail)
            go_cut [10] (fun v wx => ∃ m : Nat, v = .int .i64 (m : Int) ∧ m ≤ l0.length ∧ Aside0 (least_Put.put l0 a1 a2 a3 = l0.take m ++ [⟨a2, a3⟩]) ∧ X = wx)
            case first =>
              by_cases hq : q < 0
              · have hqd : decide (q < 0) = true := decide_eq_true hq
                have HP : Aside0 (least_Put.put l0 a1 a2 a3 = l0.take l0.length ++ [⟨a2, a3⟩]) := ⟨by rw [HPUT.out, if_pos hq, List.take_length]⟩
                clear HPUT
                go_wp2
                go_meet
                exact ⟨l0.length, rfl, Nat.le_refl _, HP, rfl⟩
              · exact absurd hm1 (by omega)
            case rest =>
              obtain ⟨m, rfl, hm, HP, rfl⟩ := hcut
              clear HPUT hm1
              have hsl := cut_hm (P := Try.prog) 22 28 Try.underlying22 (Classical.choose_spec infoN28).1 A0 l0.length c0 m (by omega)
              have hown : ∀ Y, Kd.C k28 Y A0 l0.length l0 → Calls Try.prog 21 #[.slice A0 m m] Y fun e w' => ∃ v0_ : Value, e = .returned (v0_) ∧ Kd.R k28 28 w' Y.heap.size (fun _ => True) v0_ (l0.take m) ∧ Below Y.heap.size Y w' := by
                intro Y hY
                have h_ := least_own.calls A0 m (l0.take m) (l0.take m) Y (Kd.C_take hY hm) (by rw [List.length_take]; omega) (by unfold least_own.f; rw [if_pos (by rw [List.length_take]; omega)])
                rwa [List.length_take, Nat.min_eq_left hm] at h_
              have HOWN := Aside0.mk hown
              clear hown
              have hc2 : X.cell? ⟨w.heap.size + 1, 0, none⟩ = some (.int .i64 a2) := (blk_cell GX2.out 0).trans rfl
              have hc3 : X.cell? ⟨w.heap.size + 1 + 1, 0, none⟩ = some (.int .i64 a3) := (blk_cell GX3.out 0).trans rfl
              have hl2 := blk_lt GX2.out
              have hl3 := blk_lt GX3.out
              go_upto_region 8 with (fail)
              go_cut [11] (fun v wx => Aside0 (Kd.R k28 28 wx w.heap.size (fun b => b ≠ w.heap.size ∧ b ≠ w.heap.size + 1 ∧ b ≠ w.heap.size + 1 + 1) v (l0.take m ++ [⟨a2, a3⟩])) ∧ Aside0 (Below w.heap.size w wx) ∧ Aside0 (wx.heap[w.heap.size]? = some (.cells #[.int .i64 a1] 3 (0, 0))) ∧ Aside0 (wx.heap[w.heap.size + 1]? = some (.cells #[.int .i64 a2] 3 (0, 0))))
              case first =>
                go_region_law (first
                  | (go_simp; go_at_call 21; refine (HOWN.out _ (by repeat (first | exact CX.out | refine Kd.C_alloc ?_ _ | refine Kd.C_drew ?_))).mono ?_; rintro ev Y ⟨v, rfl, hR, hB⟩; obtain ⟨GY1, GY2, GY3, HBY, HRY, hd2, hd3, hy2, hy3⟩ := arm_own (a1 := a1) (a2 := a2) (a3 := a3) (by repeat (first | exact GX1.out | refine blk_alloc ?_ _ | refine blk_drew ?_)) (by repeat (first | exact GX2.out | refine blk_alloc ?_ _ | refine blk_drew ?_)) (by repeat (first | exact GX3.out | refine blk_alloc ?_ _ | refine blk_drew ?_)) (by repeat (first | exact HBX.out | apply below_alloc | apply below_drew)) hR hB; (try have GL := Aside0.mk (blk_below (new_row X.drew (.cells #[.int .i64 a2, .int .i64 a3] 28)) hB)); clear hR hB)
                  | (refine app1 (w0 := w) w.heap.size (by rfl) (.tmp 56) (.tmp 60) (by rfl) _ (l0.take m) a2 a3 (fun b => b ≠ w.heap.size ∧ b ≠ w.heap.size + 1 ∧ b ≠ w.heap.size + 1 + 1) (by simp [Act.eval, Act.put]) (by simp [Act.eval, Act.put]) (fun b hb => ⟨by omega, by omega, by omega⟩) HRY.out HBY.out (by omega) (by rw [List.length_take]; omega) ?_; intro v1 w1 HO2 HB2 hgr; obtain ⟨GA1, GA2⟩ := arm_app GY1.out GY2.out HRY.out hgr; have HOA := Aside0.mk HO2; have HBA := Aside0.mk HB2; clear HO2 HB2 hgr)
                  | (refine app2 (w0 := w) w.heap.size (by rfl) (.tmp 56) (.tmp 60) (by rfl) _ (l0.take m) a2 a3 X.heap.size (fun b => b ≠ w.heap.size ∧ b ≠ w.heap.size + 1 ∧ b ≠ w.heap.size + 1 + 1) (by simp [Act.eval, Act.put]) (by simp [Act.eval, Act.put]) (fun b hb => ⟨by omega, by omega, by omega⟩) HRY.out GL.out HBY.out (by omega) (by rw [List.length_take]; omega) ?_; intro v1 w1 HO2 HB2 hgr; obtain ⟨GA1, GA2⟩ := arm_app GY1.out GY2.out HRY.out hgr; have HOA := Aside0.mk HO2; have HBA := Aside0.mk HB2; clear HO2 HB2 hgr))
                all_goals (go_wp2_with fail; go_meet; exact ⟨HOA, HBA, GA1, GA2⟩)
              case rest =>
                obtain ⟨HOA, HBA, GA1, GA2⟩ := hcut
                clear hsl hc2 hc3 hl2 hl3 HOWN CX HBX GX1 GX2 GX3
                have hq2 := HGO.out
                unfold least_Put.go at hq2
                rw [HP.out] at hq2
                have hr2 := ix28_range (fun m => decide (m.f0 ≥ wrap64 (a2 - a1))) (l0.take m ++ [⟨a2, a3⟩]) 0
                have hlen : (l0.take m ++ [(⟨a2, a3⟩ : S28)]).length = m + 1 := by rw [List.length_append, List.length_take, Nat.min_eq_left hm]; rfl
                have HL := Aside0.mk hlen
                rw [hlen] at hr2
                generalize l0.take m ++ [(⟨a2, a3⟩ : S28)] = out at *
                obtain ⟨A1, cA, rfl, hle, hC⟩ := Kd.R_reads HOA.out
                have HQ3 := Aside0.mk hq2
                have HCA := Aside0.mk hC
                clear HGO hq2 hC hlen
                go_wp2_with fail
                refine (index2.calls (w.heap.size + 1) w.heap.size a2 a1 A1 cA out _ HCA.out hle (by have := HL.out; omega) GA2.out GA1.out).mono ?_
                rintro ev Y ⟨rfl, hB⟩
                generalize ix28 (fun m => decide (m.f0 ≥ wrap64 (a2 - a1))) out 0 = f at *
                by_cases hf : 0 ≤ f
                · have hq3 := HQ3.out
                  rw [if_pos hf] at hq3
                  simp only [Option.some.injEq, Prod.mk.injEq] at hq3
                  obtain ⟨rfl, rfl⟩ := hq3
                  have hfl : f ≤ out.length := by have := HL.out; omega
                  have hcut := cut_from (P := Try.prog) 22 28 .i64 Try.underlying22 (Classical.choose_spec infoN28).1 2 (Classical.choose_spec infoN28).2.2.1 A1 out.length cA f hf hfl
                  have HF : Aside0 (Kd.F k28 Y (fun b => w.heap.size ≤ b) (if cA = f.toNat then A1 else A1.map (·.add (f.toNat * 2))) (out.drop f.toNat).length (out.drop f.toNat)) := ⟨Kd.F_below (Kd.F_cut (m := f.toNat) (c := cA) (Kd.R_F (ok := fun b => w.heap.size ≤ b) (Kd.R_mono (Kd.R_bound HOA.out) (fun b hb => hb.2.1))) (by omega) hle) hB⟩
                  have HBY := Aside0.mk (below_step HBA.out hB)
                  have hck : cA - f.toNat ≥ out.length - f.toNat := by omega
                  clear HQ3 hB HOA HBA GA1 GA2 HCA
                  generalize (if cA = f.toNat then A1 else A1.map fun x => x.add (f.toNat * 2)) = A2 at *
                  go_wp2
                  go_ret2
                  exact ⟨_, rfl, ⟨A2, cA - f.toNat, by rw [List.length_drop]; rfl, by rw [List.length_drop]; exact hck, HF.out⟩, HBY.out⟩
                · have hq3 := HQ3.out
                  rw [if_neg hf] at hq3
                  cases hq3
  · rw [if_neg hlim] at h
    cases h

end Go.Proofs.Ytghhjkjdeohmiaa.Hp
