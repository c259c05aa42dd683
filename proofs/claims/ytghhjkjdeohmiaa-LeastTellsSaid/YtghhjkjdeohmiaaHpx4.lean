/- Functions of the program as Lean functions, each with its contract: the call comes to that answer. Told by wip/tools/handprint.py of this session. -/
import Derived.Test.YtghhjkjdeohmiaaHpx0
namespace Go.Proofs.Ytghhjkjdeohmiaa.Hp
open Go.RowKit Go.Proofs.YtghhjkjdeohmiaaW.PrintWords Go.Proofs.YtghhjkjdeohmiaaW.PrintLast Go.Proofs.YtghhjkjdeohmiaaW.PrintMore
attribute [local go_sem] max2_int min2_int max_two min_two max_three min_three max_four min_four   -- for this text's walks alone
set_option linter.unusedVariables false
set_option linter.unusedSimpArgs false

/-! ### least_own: function 21 -/
theorem run_make_rowN {P : Program} (t e : TypeId) (i : TypeInfo) (z : Value) (ht : P.underlying t = some (.slice e)) (hi : P.info? e = some i) (hz : i.zero = some z)
    (n : Nat) (hbytes : i.bytes * n ≤ 281474976710656) (h63 : n ≤ 9223372036854775807) (w : World) :
    (Instr.makeSlice t (.int .i64 (n : Int)) (.int .i64 (n : Int))).run P w = .ok (.slice (some ⟨w.heap.size, 0, none⟩) n n) (w.alloc (.cells (madeCells z.cells (n * i.size)) e)) := by
  have hb : (i.bytes : Int) * (n : Int) ≤ 281474976710656 := by
    have h : ((i.bytes * n : Nat) : Int) ≤ 281474976710656 := by omega
    rwa [Int.natCast_mul] at h
  have hr := run_make (P := P) w t e i z ht hi hz .i64 .i64 n n (by omega) (by omega) hb (by omega)
  simp only [Int.toNat_natCast] at hr
  exact hr

theorem run_copy_2 {P : Program} (w : World) (dT sT ty elem : TypeId) (g n : Nat) (a : Addr) (sCap : Nat) (cur : Array Value) (t : TypeId) (cs : List Value)
    (hu : P.underlying dT = some (.slice elem)) (hs : (P.info? elem).map (·.size) = some 2)
    (hg : w.heap[g]? = some (.cells cur t (0, 0))) (hn : cs.length = n * 2)
    (hsrc : ∀ j v, cs[j]? = some v → w.cell? (a.add j) = some v) (hfit : cur.size = n * 2) (h1 : ∀ v ∈ cs, v.oneCell' = true) :
    (Builtin.copy_ #[dT, sT] ty #[.slice (some ⟨g, 0, none⟩) n n, .slice (some a) n sCap]).run P w =
      .ok (goInt n) (w.setRow g cs.toArray) := by
  have hl := run_loadCells_list (P := P) w a cs hsrc
  have hst := run_storeCells_at P g 0 t cs 0 cur w hg (by omega) h1
  rw [hn] at hl
  have hcl : cur.toList.drop (n * 2) = [] := List.drop_of_length_le (by simp [hfit])
  simp only [Nat.zero_add, hn, List.take_zero, List.nil_append, hcl, List.append_nil] at hst
  cases hq : P.info? elem with
  | none => simp [hq] at hs
  | some i =>
    have hi : i.size = 2 := by simpa [hq] using hs
    simp [Builtin.copy_, run_underlying hu, Builtin.lenOf, Builtin.firstCells, sizeOf, typeInfo, hq, hi, hl, hst]
theorem run_copy_0 {P : Program} (w : World) (dT sT ty elem : TypeId) (d : Option Addr) (s : Option Addr) (c d2 : Nat)
    (hu : P.underlying dT = some (.slice elem)) (hs : (P.info? elem).map (·.size) = some 2) :
    (Builtin.copy_ #[dT, sT] ty #[.slice d 0 d2, .slice s 0 c]).run P w = .ok (goInt 0) w := by
  cases hq : P.info? elem with
  | none => simp [hq] at hs
  | some i =>
    cases d <;> cases s <;> simp [Builtin.copy_, run_underlying hu, Builtin.lenOf, Builtin.firstCells, sizeOf, typeInfo, hq, storeCells, loadCells, loadCellsFrom]

/-- What own answers: the same marks (told where they are few). -/
def least_own.f (l0 : List S28) : Option (List S28) := if l0.length ≤ 1000000 then some l0 else none
theorem infoN28 : ∃ i, Try.prog.info? 28 = some i ∧ i.zero = some (.agg #[(.int .i64 0), (.int .i64 0)]) ∧ i.size = 2 ∧ i.bytes = 16 := by
  have h := info28
  cases hq : Try.prog.info? 28 with
  | none => simp [hq] at h
  | some i => simp [hq] at h; exact ⟨i, rfl, h.1, h.2.1, h.2.2⟩
theorem made_size (z : Value) (n : Nat) (hz : z.cells.size = 2) : (madeCells z.cells (n * 2)).size = n * 2 := by
  unfold madeCells
  simp [hz]
theorem k28_cells {w : World} {l : List S28} {cs : List Value} (h : Reps (k28.K w) 2 l cs) : ∀ v ∈ cs, v.oneCell' = true := by
  intro v hv
  obtain ⟨j, hj, rfl⟩ := List.getElem_of_mem hv
  have hlen : cs.length = l.length * 2 := h.1
  have hi : j / 2 < l.length := by omega
  have hq := h.2 (j / 2) _ (List.getElem?_eq_getElem hi)
  have hk := k28.K_one hq
  refine hk _ ?_
  rw [List.mem_iff_getElem?]
  refine ⟨j % 2, ?_⟩
  rw [List.getElem?_take, if_pos (by omega), List.getElem?_drop, show j / 2 * 2 + j % 2 = j by omega]
  exact List.getElem?_eq_getElem hj
theorem new_row (w : World) (o : Obj) : (w.alloc o).heap[w.heap.size]? = some o := by
  unfold World.alloc
  simp
theorem own_copy (A0 : Option Addr) (c0 : Nat) (l0 : List S28) (w : World) (hr0 : Kd.C k28 w A0 l0.length l0) (hlim : l0.length ≤ 1000000) :
    ∃ W', (Builtin.copy_ #[22, 22] 3 #[.slice (some ⟨w.heap.size, 0, none⟩) l0.length l0.length, .slice A0 l0.length c0]).run Try.prog (w.alloc (Obj.cells (madeCells #[Value.int IntKind.i64 0, Value.int IntKind.i64 0] (l0.length * 2)) 28)) = .ok (goInt l0.length) W'
      ∧ Kd.R k28 28 W' w.heap.size (fun _ => True) (.slice (some ⟨w.heap.size, 0, none⟩) l0.length l0.length) l0 ∧ Below w.heap.size w W' := by
  obtain ⟨i, hi, hz, hsz, hby⟩ := infoN28
  have hs : (Try.prog.info? 28).map (·.size) = some 2 := by rw [hi]; simp [hsz]
  have hmax : (l0.length : Nat) ≤ maxLen := by unfold maxLen; omega
  have hB0 : Below w.heap.size w (w.alloc (Obj.cells (madeCells #[Value.int IntKind.i64 0, Value.int IntKind.i64 0] (l0.length * 2)) 28)) := below_alloc (Below.refl _ _) _
  have hsize : (madeCells #[Value.int IntKind.i64 0, Value.int IntKind.i64 0] (l0.length * 2)).size = l0.length * 2 := by unfold madeCells; simp
  by_cases h0 : l0 = []
  · subst h0
    refine ⟨_, run_copy_0 _ 22 22 3 28 _ _ _ _ Try.underlying22 hs, ⟨fun _ _ => trivial, [], ⟨rfl, .inr ⟨w.heap.size, 0, _, rfl, Nat.le_refl _, new_row w _, Nat.le_refl _, hmax, hsize, rfl⟩⟩, Reps.none _ _⟩, hB0⟩
  · have hpos : 0 < l0.length := List.length_pos_iff.mpr h0
    obtain ⟨ad, rfl, _, _⟩ := at_T28 hr0 0 (Int.le_refl _) (by omega)
    obtain ⟨inner, hre, hin⟩ := ReadsRow.inner_ hr0
    have hlen : inner.length = l0.length * 2 := hre.1
    refine ⟨_, run_copy_2 _ 22 22 3 28 w.heap.size l0.length ad c0 _ 28 inner Try.underlying22 hs (new_row w _) hlen (fun j v hj => ?_) hsize (k28_cells hre), ⟨fun _ _ => trivial, inner, ⟨hlen, .inr ⟨w.heap.size, l0.length, inner.toArray, rfl, Nat.le_refl _, setRow_heap _ _ _ _ _ _ (new_row w _), Nat.le_refl _, hmax, by show inner.toArray.size = l0.length * 2; simpa using hlen, ?_⟩⟩, ?_⟩, below_setRow hB0 (Nat.le_refl _) _⟩
    · have h1 := hin j v hj
      exact (hB0.cell (World.block_lt_of_cell? w _ h1)).trans h1
    · show List.take (l0.length * 2) inner = inner
      rw [← hlen, List.take_length]
    · refine hre.imp_ (fun p c hp => ?_)
      obtain rfl := k28_open hp
      exact k28_mkM _ _ _ _
set_option maxHeartbeats 1600000 in
set_option maxRecDepth 100000 in
theorem least_own.calls (A0 : Option Addr) (c0 : Nat) (l0 : List (S28)) (r : List S28) (w : World) (hr0 : Kd.C k28 w A0 l0.length l0) (hc0 : l0.length ≤ c0) (h : least_own.f l0 = some r) :
    Calls Try.prog 21 #[.slice A0 l0.length c0] w fun e w' => ∃ v0_ : Value, e = .returned (v0_) ∧ Kd.R k28 28 w' w.heap.size (fun _ => True) v0_ r ∧ Below w.heap.size w w' := by
  unfold least_own.f at h
  by_cases hlim : l0.length ≤ 1000000
  · rw [if_pos hlim] at h
    obtain rfl := Option.some.inj h
    obtain ⟨i, hi, hz, hsz, hby⟩ := infoN28
    have hmk : ∀ X : World, (Instr.makeSlice 22 (.int .i64 (l0.length : Int)) (.int .i64 (l0.length : Int))).run Try.prog X = .ok (.slice (some ⟨X.heap.size, 0, none⟩) l0.length l0.length) (X.alloc (.cells (madeCells (Value.agg #[(.int .i64 0), (.int .i64 0)]).cells (l0.length * i.size)) 28)) :=
      fun X => run_make_rowN 22 28 i _ Try.underlying22 hi hz l0.length (by rw [hby]; omega) (by omega) X
    rw [hsz] at hmk
    obtain ⟨W', hcp, hR, hB⟩ := own_copy A0 c0 l0 w hr0 hlim
    have HR := Aside0.mk hR
    have HB := Aside0.mk hB
    clear hr0 hi hz hsz hby h hR hB
    go_enter Try.func21, Try.ntmps21
    go_wp2
    go_ret
    exact ⟨_, rfl, HR.out, HB.out⟩
  · rw [if_neg hlim] at h
    cases h


-- NOT PRINTED: function 22 (api_Mark)

end Go.Proofs.Ytghhjkjdeohmiaa.Hp
