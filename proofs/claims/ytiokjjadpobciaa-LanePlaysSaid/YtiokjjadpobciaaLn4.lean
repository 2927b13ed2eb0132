import Derived.Test.YtiokjjadpobciaaLn3
namespace Go.Proofs.Ytiokjjadpobciaa.P
open Go.RowKit Go.Conc Go.Proofs.YtiokjjadpobciaaW.PrintWords Go.Proofs.YtiokjjadpobciaaW.PrintLast Go.Proofs.YtiokjjadpobciaaW.PrintMore
attribute [local go_sem] max2_int min2_int max_two min_two max_three min_three max_four min_four
set_option linter.unusedVariables false
set_option linter.unusedSimpArgs false
namespace Ln
theorem info72 : (Try.prog.info? 72).map (fun i => (i.zero, i.size, i.bytes)) = some (some (.chan none), 1, 8) := by kernel_rfl
theorem bytes2 : ∃ i, Try.prog.info? 2 = some i ∧ i.bytes = 8 := by
  have h : (Try.prog.info? 2).map (·.bytes) = some 8 := by kernel_rfl
  obtain ⟨i, hi, hb⟩ := Option.map_eq_some_iff.1 h
  exact ⟨i, hi, hb⟩
theorem mkc (r : Nat) (hr : r ≤ 64) (w : World) : (Instr.makeChan 72 (.int .i64 r)).run Try.prog w = .ok (.chan (some w.heap.size)) (w.alloc (.chan r #[] false 0 0 false)) := by
  obtain ⟨i, hi, hb⟩ := bytes2
  simpa using run_makeChan (P := Try.prog) (w := w) Try.underlying72 hi .i64 r (by omega) (by rw [hb]; omega)
theorem LnS.grow {B g room : Nat} {v v1 : Value} {cs : List Nat} {L : List (List Int)} {w w2 : World} (h : LnS B g v cs room L w) (hB : B ≤ w.heap.size) (hr : Kd.R chan 72 w2 B (fun k => k ≠ g) v1 (cs ++ [w.heap.size]))
    (hg : (w.alloc (.chan room #[] false 0 0 false)).grownBy w2 v.ownBlock) : LnS B g v1 (cs ++ [w.heap.size]) room (L ++ [[]]) (w2.setCell ⟨g, 0, none⟩ v1) := by
  have hne : ∀ (c cap : Nat) (buf : Array Value) (cl : Bool) (s r : Nat) (tm : Bool), (w.alloc (.chan room #[] false 0 0 false)).heap[c]? = some (Obj.chan cap buf cl s r tm) → some c ≠ v.ownBlock := by
    intro c cap buf cl s r tm hc e
    obtain ⟨_, _, hlt, q, hq, cells, hcell⟩ := (Kd.R_bound h.row).1 c e.symm
    rw [Below.heap_alloc _ _ _ hlt] at hc
    rw [hc] at hcell
    simp at hcell
  have hgo : some g ≠ v.ownBlock := fun e => h.row.1 g e.symm rfl
  have hb2 : w2.heap[g]? = some (.cells #[v] 71 (0, 0)) := blk_grown (blk_alloc h.blk _) hg hgo
  have hput : ∀ (c cap : Nat) (buf : Array Value) (cl : Bool) (s r : Nat) (tm : Bool), (w.alloc (.chan room #[] false 0 0 false)).heap[c]? = some (Obj.chan cap buf cl s r tm) → (w2.setCell ⟨g, 0, none⟩ v1).heap[c]? = some (Obj.chan cap buf cl s r tm) := by
    intro c cap buf cl s r tm hc
    rw [Below.heap_setCell _ _ _ _ (fun e => ?_)]
    · exact blk_grown hc hg (hne _ _ _ _ _ _ _ hc)
    · have e' : c = g := e
      subst e'
      rw [blk_alloc h.blk] at hc
      simp at hc
  refine ⟨blk_put hb2 0 v1 rfl, Kd.R_far hr (fun k hk => hk) _, by simp [h.len], ?_, fun i c hi => ?_, fun q hq => ?_, fun c hc => ?_⟩
  · rw [List.nodup_append]
    refine ⟨h.nd, by simp, fun a ha b hb => ?_⟩
    simp only [List.mem_singleton] at hb
    subst hb
    obtain ⟨i, hi⟩ := List.mem_iff_getElem?.1 ha
    obtain ⟨s, r, hc⟩ := h.ch i a hi
    have := blk_lt hc
    omega
  · by_cases d : i < cs.length
    · rw [List.getElem?_append_left d] at hi
      obtain ⟨s, r, hc⟩ := h.ch i c hi
      refine ⟨s, r, ?_⟩
      rw [List.getD_eq_getElem?_getD, List.getElem?_append_left (by rw [h.len]; exact d), ← List.getD_eq_getElem?_getD]
      exact hput _ _ _ _ _ _ _ (blk_alloc hc _)
    · rw [List.getElem?_append_right (by omega)] at hi
      have e : i - cs.length = 0 := by
        rcases Nat.eq_zero_or_pos (i - cs.length) with e | e
        · exact e
        · rw [List.getElem?_eq_none (by simp; omega)] at hi; simp at hi
      rw [e] at hi
      simp only [List.getElem?_cons_zero, Option.some.injEq] at hi
      subst hi
      refine ⟨0, 0, ?_⟩
      rw [List.getD_eq_getElem?_getD, List.getElem?_append_right (by rw [h.len]; omega), h.len, e]
      exact hput _ _ _ _ _ _ _ (heap_alloc_new _ _)
  · rcases List.mem_append.1 hq with hq | hq
    · exact h.fit q hq
    · simp only [List.mem_singleton] at hq; subst hq; simp
  · rcases List.mem_append.1 hc with hc | hc
    · exact h.lo c hc
    · simp only [List.mem_singleton] at hc; subst hc; exact hB
def lnew.T6 : Bool × List (List Nat × List Nat) := (true, [([], []), ([], []), ([1], [1]), ([2], [2]), ([3], [3]), ([], []), ([5], [5]), ([6], [6]), ([4, 7], [4, 7]), ([0, 0, 1, 2, 3, 4, 5, 6, 7, 8], [0]), ([9, 0, 1, 2, 3, 4, 5, 6, 7, 8], [9]), ([10, 8, 8, 0, 1, 2, 3, 4, 5, 6, 7, 8], [8, 10])])
def lnew.B6 : List Nat := [0, 0, 2, 6, 14, 0, 32, 96, 254, 511, 1023, 2047]
theorem lnew.tab6 : rtab .any (opsOf Try.f13 6) = lnew.T6 := by kernel_rfl
theorem lnew.bits6 : waitsOk lnew.T6.2 lnew.B6 = true := by kernel_rfl
theorem LnS.lower {B B' g room : Nat} {v : Value} {cs : List Nat} {L : List (List Int)} {w : World} (h : LnS B g v cs room L w) (hb : B' ≤ B) : LnS B' g v cs room L w :=
  ⟨h.blk, Kd.R_lower h.row hb, h.len, h.nd, h.ch, h.fit, fun c hc => Nat.le_trans hb (h.lo c hc)⟩
set_option maxHeartbeats 8000000 in
set_option maxRecDepth 100000 in
theorem New_bad.calls (m r : Int) (w : World) (h : ¬ (1 ≤ m ∧ m ≤ 8 ∧ 1 ≤ r ∧ r ≤ 64)) :
    Calls Try.prog 13 #[.int .i64 m, .int .i64 r] w fun e w' => e = .returned (.tuple #[.pointer none, .int .i64 2]) ∧ w' = w := by
  have hh : m < 1 ∨ (¬ m < 1 ∧ 8 < m) ∨ (¬ m < 1 ∧ ¬ 8 < m ∧ r < 1) ∨ (¬ m < 1 ∧ ¬ 8 < m ∧ ¬ r < 1 ∧ 64 < r) := by omega
  rcases hh with hh | hh | hh | hh
  · have d0 : decide (m < 1) = true := decide_eq_true (by omega)
    go_enter Try.func13, Try.ntmps13
    go_wp2
    go_ret2
    exact ⟨rfl, rfl⟩
  · have d0 : decide (m < 1) = false := decide_eq_false (by omega)
    have d1 : decide (8 < m) = true := decide_eq_true (by omega)
    go_enter Try.func13, Try.ntmps13
    go_wp2
    go_ret2
    exact ⟨rfl, rfl⟩
  · have d0 : decide (m < 1) = false := decide_eq_false (by omega)
    have d1 : decide (8 < m) = false := decide_eq_false (by omega)
    have d2 : decide (r < 1) = true := decide_eq_true (by omega)
    go_enter Try.func13, Try.ntmps13
    go_wp2
    go_ret2
    exact ⟨rfl, rfl⟩
  · have d0 : decide (m < 1) = false := decide_eq_false (by omega)
    have d1 : decide (8 < m) = false := decide_eq_false (by omega)
    have d2 : decide (r < 1) = false := decide_eq_false (by omega)
    have d3 : decide (64 < r) = true := decide_eq_true (by omega)
    go_enter Try.func13, Try.ntmps13
    go_wp2
    go_ret2
    exact ⟨rfl, rfl⟩
set_option maxHeartbeats 8000000 in
set_option maxRecDepth 100000 in
theorem New_ok.calls (m r : Nat) (w : World) (h : 1 ≤ m ∧ m ≤ 8 ∧ 1 ≤ r ∧ r ≤ 64) :
    Calls Try.prog 13 #[.int .i64 m, .int .i64 r] w fun e w' => ∃ g, e = .returned (.tuple #[.pointer (some ⟨g, 0, none⟩), .int .i64 0]) ∧ w.heap.size ≤ g ∧ LnP w.heap.size g r (List.replicate m []) w' ∧ Below w.heap.size w w' := by
  have hmc := mkc r h.2.2.2
  have d0 : decide ((m : Int) < 1) = false := decide_eq_false (by omega)
  have d1 : decide (8 < (m : Int)) = false := decide_eq_false (by omega)
  have d2 : decide ((r : Int) < 1) = false := decide_eq_false (by omega)
  have d3 : decide (64 < (r : Int)) = false := decide_eq_false (by omega)
  go_enter Try.func13, Try.ntmps13
  go_wp2
  go_loopw [24] (fun x24 wr => ∃ (i : Nat) (v : Value) (cs : List Nat), x24 = .int .i64 i ∧ i ≤ m ∧ Aside0 (LnS w.heap.size w.heap.size v cs r (List.replicate i []) wr) ∧ Aside0 (Below w.heap.size w wr)) (fun x24 _ => m - (intOf x24).toNat)
  case atStart =>
    refine ⟨0, .slice none 0 0, [], rfl, by omega, ⟨?_⟩, ⟨?_⟩⟩
    · exact ⟨blk_new w _, Kd.R_nil _ _ _ _ _, rfl, by simp, fun i c hi => by simp at hi, fun q hq => by simp at hq, fun c hc => by simp at hc⟩
    · exact (Below.refl _ w).alloc (Nat.le_refl _) _
  case round =>
    obtain ⟨i, v, cs, rfl, hi, HL, HB⟩ := hrel
    by_cases d : i < m
    · have dl : decide ((i : Int) < (m : Int)) = true := decide_eq_true (by omega)
      have HLN := Aside0.mk (show cs.length ≤ 8 by have := HL.out.len; simp at this; omega)
      go_wp2_with fail
      have HL2 := Aside0.mk (HL.out.below (below_drew1 (Below.refl _ wr)))
      have HBA := Aside0.mk (below_drew1 HB.out)
      clear HL HB
      have HL := HL2
      clear HL2
      refine start_ (n := 12) (S := fun w' => w'.cell? ⟨w.heap.size, 0, none⟩ = some v) (ds := [11]) #[false, false, false, false, false, false, false, false, false, false, false, false] (by kernel_rfl) rfl rfl (blk_cell HL.out.blk 0) (fun hHeld => ?_)
      refine with_tabW lnew.tab6 lnew.bits6 (fun HT_ HW_ => ?_)
      generalize wr.drew = W at HL HBA hHeld ⊢
      refine pure_ (i := 0) (N := some 26) (v := ?_) (a' := ?_) #[true, false, false, false, false, false, false, false, false, false, false, false] rfl rfl (any_of HT_.out (by kernel_rfl)) (fun _ _ _ h => h) (Or.inl ⟨by rfl, ?_⟩) ?_ ?_
      rotate_left
      · intro w'
        go_simp
        with_reducible rfl
      rotate_left
      · simp only [Act.put, List.setIfInBounds_toArray, List.set_cons_zero, List.set_cons_succ, i64_w, i32_w]
        rfl
      refine pure_ (i := 1) (N := some 27) (v := ?_) (a' := ?_) #[true, true, false, false, false, false, false, false, false, false, false, false] rfl rfl (any_of HT_.out (by kernel_rfl)) (fun _ _ _ h => h) (Or.inl ⟨by rfl, ?_⟩) ?_ ?_
      rotate_left
      · intro w'
        go_simp
        with_reducible rfl
      rotate_left
      · simp only [Act.put, List.setIfInBounds_toArray, List.set_cons_zero, List.set_cons_succ, i64_w, i32_w]
        rfl
      refine pure_ (i := 2) (N := some 28) (v := ?_) (a' := ?_) #[true, true, true, false, false, false, false, false, false, false, false, false] rfl rfl (any_of HT_.out (by kernel_rfl)) (fun _ _ _ h => h) (Or.inl ⟨by rfl, ?_⟩) ?_ ?_
      rotate_left
      · intro w'
        go_simp
        with_reducible rfl
      rotate_left
      · simp only [Act.put, List.setIfInBounds_toArray, List.set_cons_zero, List.set_cons_succ, i64_w, i32_w]
        rfl
      refine pure_ (i := 3) (N := some 29) (v := ?_) (a' := ?_) #[true, true, true, true, false, false, false, false, false, false, false, false] rfl rfl (any_of HT_.out (by kernel_rfl)) (fun _ _ _ h => h) (Or.inl ⟨by rfl, ?_⟩) ?_ ?_
      rotate_left
      · intro w'
        go_simp
        with_reducible rfl
      rotate_left
      · simp only [Act.put, List.setIfInBounds_toArray, List.set_cons_zero, List.set_cons_succ, i64_w, i32_w]
        rfl
      refine pure_ (i := 5) (N := some 31) (v := ?_) (a' := ?_) #[true, true, true, true, false, true, false, false, false, false, false, false] rfl rfl (any_of HT_.out (by kernel_rfl)) (fun _ _ _ h => h) (Or.inl ⟨by rfl, ?_⟩) ?_ ?_
      rotate_left
      · intro w'
        go_simp
        with_reducible rfl
      rotate_left
      · simp only [Act.put, List.setIfInBounds_toArray, List.set_cons_zero, List.set_cons_succ, i64_w, i32_w]
        rfl
      refine take_ (i := 4) (N := some 30) (v := ?_) (a' := ?_) #[true, true, true, true, true, true, false, false, false, false, false, false] rfl rfl (take_ofW HT_.out HW_.out (by kernel_rfl)) (fun _ _ _ h => h) (Or.inl ⟨by rfl, ?_⟩) hHeld ?_ ?_
      rotate_left
      · intro w' s0
        go_simp
        with_reducible rfl
      rotate_left
      · simp only [Act.put, List.setIfInBounds_toArray, List.set_cons_zero, List.set_cons_succ, i64_w, i32_w]
        rfl
      refine one_ (i := 6) (N := some 32) #[true, true, true, true, true, true, true, false, false, false, false, false] rfl rfl (one_of HT_.out (by kernel_rfl)) (by decide) (fun K hK => ?_)
      refine value_ (w1 := ?_) (v := ?_) (by rfl) rfl ?_ ?_
      rotate_left 2
      · go_simp
        constructor
        · rfl
        · rfl
      have HL1 := Aside0.mk (blk_alloc HL.out.blk (.chan r #[] false 0 0 false))
      have HRA := Aside0.mk (Kd.R_below HL.out.row ((Below.refl _ W).alloc (Nat.le_refl _) (.chan r #[] false 0 0 false)))
      have HBW := Aside0.mk (show w.heap.size ≤ W.heap.size from HBA.out.size)
      have HB1 := Aside0.mk (HBA.out.alloc HBW.out (.chan r #[] false 0 0 false))
      refine hK.out _ _ (blk_cell HL1.out 0) (fun hHeld => ?_)
      clear hK K
      refine norm_ (a' := ?_) ?_ ?_
      rotate_left
      · show Act.put _ (some 32) _ = _
        simp only [Act.put, List.setIfInBounds_toArray, List.set_cons_zero, List.set_cons_succ, i64_w, i32_w]
        rfl
      refine one_ (i := 7) (N := some 33) #[true, true, true, true, true, true, true, true, false, false, false, false] rfl rfl (one_of HT_.out (by kernel_rfl)) (by decide) (fun K hK => ?_)
      refine value_ (w1 := ?_) (v := ?_) (by rfl) rfl ?_ ?_
      rotate_left 2
      · go_simp
        constructor
        · rfl
        · rfl
      refine hK.out _ _ (blk_cell (blk_alloc HL1.out _) 0) (fun hHeld => ?_)
      clear hK K
      refine norm_ (a' := ?_) ?_ ?_
      rotate_left
      · show Act.put _ (some 33) _ = _
        simp only [Act.put, List.setIfInBounds_toArray, List.set_cons_zero, List.set_cons_succ, i64_w, i32_w]
        rfl
      refine one_ (i := 8) (N := some 34) #[true, true, true, true, true, true, true, true, true, false, false, false] rfl rfl (one_of HT_.out (by kernel_rfl)) (by decide) (fun K hK => ?_)
      refine Kd.R_append_step chan (w0 := w) w.heap.size (by rfl) (.tmp 30) (.tmp 33) 69 72 (.chan none) 8 rfl Try.underlying69 info72 rfl (by decide) (by omega) v cs W.heap.size [.chan (some W.heap.size)] (fun k => k ≠ w.heap.size) (fun _ => False) rfl (by simp [Act.eval]) rfl (fun _ hk => hk.elim) (by intro k hk; have := blk_lt HL1.out; omega) (HRA.out) (HB1.out) (by have := HBW.out; simp; omega) (by have := HLN.out; omega) ?_
      intro v1 w2 ho hb2 hg ha
      obtain ⟨A2, c2, rfl⟩ := Kd.R_slice ho
      have hc2 := blk_cell (blk_grown HL1.out hg (fun e => HL.out.row.1 _ e.symm rfl)) 0
      have hf2 := blk_frozen (blk_grown HL1.out hg (fun e => HL.out.row.1 _ e.symm rfl)) 0
      have HO := Aside0.mk ho
      have HB2 := Aside0.mk hb2
      have HG := Aside0.mk hg
      have HA := Aside0.mk ha
      clear ho hb2 hg ha
      refine hK.out _ _ ((blk_cell (blk_grown HL1.out HG.out (fun e => HL.out.row.1 _ e.symm rfl)) 0)) (fun hHeld => ?_)
      clear hK K
      refine norm_ (a' := ?_) ?_ ?_
      rotate_left
      · show Act.put _ (some 34) _ = _
        simp only [Act.put, List.setIfInBounds_toArray, List.set_cons_zero, List.set_cons_succ, i64_w, i32_w]
        rfl
      refine pure_ (i := 9) (N := some 35) (v := ?_) (a' := ?_) #[true, true, true, true, true, true, true, true, true, true, false, false] rfl rfl (any_of HT_.out (by kernel_rfl)) (fun _ _ _ h => h) (Or.inl ⟨by rfl, ?_⟩) ?_ ?_
      rotate_left
      · intro w'
        go_simp
        with_reducible rfl
      rotate_left
      · simp only [Act.put, List.setIfInBounds_toArray, List.set_cons_zero, List.set_cons_succ, i64_w, i32_w]
        rfl
      refine pure_ (i := 10) (N := some 36) (v := ?_) (a' := ?_) #[true, true, true, true, true, true, true, true, true, true, true, false] rfl rfl (any_of HT_.out (by kernel_rfl)) (fun _ _ _ h => h) (Or.inl ⟨by rfl, ?_⟩) ?_ ?_
      rotate_left
      · intro w'
        go_simp
        with_reducible rfl
      rotate_left
      · simp only [Act.put, List.setIfInBounds_toArray, List.set_cons_zero, List.set_cons_succ, i64_w, i32_w]
        rfl
      refine last_ (i := 11) (N := none) #[true, true, true, true, true, true, true, true, true, true, true, true] rfl rfl (by kernel_rfl) (by decide) (fun K hK => ?_)
      refine skip_ (w1 := ?_) (by rfl) rfl ?_ ?_
      rotate_left
      · go_simp
        rfl
      refine hK.out _ _ ?_
      clear hK K
      refine done_ (done_of HT_.out (by kernel_rfl)) ?_

      have HT := HL.out.grow HBW.out HO.out HG.out
      rw [← List.replicate_succ'] at HT
      have HT := Aside0.mk HT
      have HB3 := Aside0.mk (show Below w.heap.size w (w2.setCell ⟨w.heap.size, 0, none⟩ (.slice A2 (cs ++ [W.heap.size]).length c2)) from HB2.out.setCell (Nat.le_refl _) _)
      simp only [List.length_append, List.length_cons, List.length_nil, Nat.zero_add] at HT HB3
      go_wp2
      go_roundw
      case rel => exact ⟨i + 1, _, _, rfl, by omega, HT, HB3⟩
      case measure => simp [intOf]; omega
    · have dl : decide ((i : Int) < (m : Int)) = false := decide_eq_false (by omega)
      have him : i = m := by omega
      subst him
      go_wp2
      go_ret2
      exact ⟨_, rfl, Nat.le_refl _, ⟨_, _, HL.out⟩, HB.out⟩
end Ln
end Go.Proofs.Ytiokjjadpobciaa.P
