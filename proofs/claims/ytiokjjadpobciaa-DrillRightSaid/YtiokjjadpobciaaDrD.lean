import Derived.Test.YtiokjjadpobciaaDr9
namespace Go.Proofs.Ytiokjjadpobciaa.P
open Go.RowKit Go.Conc Go.Proofs.YtiokjjadpobciaaW.PrintWords Go.Proofs.YtiokjjadpobciaaW.PrintLast Go.Proofs.YtiokjjadpobciaaW.PrintMore
attribute [local go_sem] max2_int min2_int max_two min_two max_three min_three max_four min_four
set_option linter.unusedVariables false
set_option linter.unusedSimpArgs false
namespace Dr
open Ln
theorem two_new (w : World) (o1 o2 : Obj) : ((w.alloc o1).alloc o2).heap[w.heap.size + 1]? = some o2 := by simpa using blk_new (w.alloc o1) o2
set_option maxHeartbeats 8000000 in
set_option maxRecDepth 100000 in
theorem bare9.calls (cs : List Value) (w : World) (hl : cs.length = 27) (h1 : ∀ u ∈ cs, u.oneCell' = true) (h0 : cs[0]? = some (.int .i64 9)) :
    Calls Try.prog 42 #[.agg cs.toArray] w fun e w' => e = .returned (.agg cs.toArray) ∧ Below w.heap.size w w' := by
  have x0 : ((w.alloc (.cells cs.toArray 66 (0, 0))).alloc (.cells #[.int .i64 0, .int .i64 0, .slice none 0 0, .int .i64 0, .int .i64 0, .bool false, .bool false, .bool false, .bool false, .bool false, .bool false, .bool false, .bool false, .string { data := #[] }, .string { data := #[] }, .string { data := #[] }, .string { data := #[] }, .int .i64 0, .int .i64 0, .int .i64 0, .int .i64 0, .int .i64 0, .int .i64 0, .int .i64 0, .int .i64 0, .int .i64 0, .slice none 0 0] 66 (0, 0))).cell? ⟨w.heap.size, 0, none⟩ = some (.int .i64 9) := by
    rw [blk_cell (blk_alloc (blk_new w (.cells cs.toArray 66 (0, 0))) _)]; simpa using h0
  have R := Aside0.mk (show ((w.alloc (.cells cs.toArray 66 (0, 0))).alloc (.cells #[.int .i64 0, .int .i64 0, .slice none 0 0, .int .i64 0, .int .i64 0, .bool false, .bool false, .bool false, .bool false, .bool false, .bool false, .bool false, .bool false, .string { data := #[] }, .string { data := #[] }, .string { data := #[] }, .string { data := #[] }, .int .i64 0, .int .i64 0, .int .i64 0, .int .i64 0, .int .i64 0, .int .i64 0, .int .i64 0, .int .i64 0, .int .i64 0, .slice none 0 0] 66 (0, 0))).rangeAt w.heap.size 0 cs from fun j v hj => by rw [blk_cell (blk_alloc (blk_new w (.cells cs.toArray 66 (0, 0))) _)]; simpa using hj)
  have L := Aside0.mk (show (Try.prog.info? 66).map (·.size) = some cs.length by rw [info66s, hl])
  have hz3 := run_storeCells_new (P := Try.prog) (w.alloc (.cells cs.toArray 66 (0, 0))) 66 #[.int .i64 0, .int .i64 0, .slice none 0 0, .int .i64 0, .int .i64 0, .bool false, .bool false, .bool false, .bool false, .bool false, .bool false, .bool false, .bool false, .string { data := #[] }, .string { data := #[] }, .string { data := #[] }, .string { data := #[] }, .int .i64 0, .int .i64 0, .int .i64 0, .int .i64 0, .int .i64 0, .int .i64 0, .int .i64 0, .int .i64 0, .int .i64 0, .slice none 0 0] cs.toArray (by rw [info66s]; simp [hl]) (by simp [hl]) (by simpa using h1)
  rw [show (w.alloc (.cells cs.toArray 66 (0, 0))).heap.size = w.heap.size + 1 by simp] at hz3
  have hsz : (Try.prog.info? 66).map (·.size) = some cs.toArray.size := by rw [info66s]; simp [hl]
  have HZ := Aside0.mk hsz
  clear h1 h0 hsz
  go_enter Try.func42, Try.ntmps42
  go_wp2_with (first | (refine wpList_load_mid rfl 66 (.tmp 1) rfl w.heap.size 0 rfl cs _ R.out Try.underlying66 rfl L.out ?_))
  refine bodyPost_ret (results_cell_row rfl _ _ (w.heap.size + 1) 66 _ (0, 0) _ rfl (two_new _ _ _) Try.underlying66 rfl HZ.out) rfl ⟨rfl, ((Below.refl _ w).alloc (Nat.le_refl _) _).alloc (by simp) _⟩
set_option maxHeartbeats 8000000 in
set_option maxRecDepth 100000 in
theorem bare4.calls (cs : List Value) (y : Value) (w : World) (hl0 : cs.length = 27) (h10 : ∀ u ∈ cs, u.oneCell' = true) (h0 : cs[0]? = some (.int .i64 4)) (hy : cs[1]? = some y) :
    Calls Try.prog 42 #[.agg cs.toArray] w fun e w' => e = .returned (.agg (cs.set 1 (.int .i64 0)).toArray) ∧ Below w.heap.size w w' := by
  have x0 : ((w.alloc (.cells cs.toArray 66 (0, 0))).alloc (.cells #[.int .i64 0, .int .i64 0, .slice none 0 0, .int .i64 0, .int .i64 0, .bool false, .bool false, .bool false, .bool false, .bool false, .bool false, .bool false, .bool false, .string { data := #[] }, .string { data := #[] }, .string { data := #[] }, .string { data := #[] }, .int .i64 0, .int .i64 0, .int .i64 0, .int .i64 0, .int .i64 0, .int .i64 0, .int .i64 0, .int .i64 0, .int .i64 0, .slice none 0 0] 66 (0, 0))).cell? ⟨w.heap.size, 0, none⟩ = some (.int .i64 4) := by
    rw [blk_cell (blk_alloc (blk_new w (.cells cs.toArray 66 (0, 0))) _)]; simpa using h0
  have x1 : ((w.alloc (.cells cs.toArray 66 (0, 0))).alloc (.cells #[.int .i64 0, .int .i64 0, .slice none 0 0, .int .i64 0, .int .i64 0, .bool false, .bool false, .bool false, .bool false, .bool false, .bool false, .bool false, .bool false, .string { data := #[] }, .string { data := #[] }, .string { data := #[] }, .string { data := #[] }, .int .i64 0, .int .i64 0, .int .i64 0, .int .i64 0, .int .i64 0, .int .i64 0, .int .i64 0, .int .i64 0, .int .i64 0, .slice none 0 0] 66 (0, 0))).cell? ⟨w.heap.size, 1, none⟩ = some y := by
    rw [blk_cell (blk_alloc (blk_new w (.cells cs.toArray 66 (0, 0))) _)]; simpa using hy
  have hl : (cs.set 1 (.int .i64 0)).length = 27 := by simp [hl0]
  have h1 : ∀ u ∈ cs.set 1 (.int .i64 0), u.oneCell' = true := fun u hu => by rcases List.mem_or_eq_of_mem_set hu with h | rfl; exact h10 u h; rfl
  obtain ⟨ds, hds⟩ : ∃ ds, ds = cs.set 1 (.int .i64 0) := ⟨_, rfl⟩
  rw [← hds] at hl h1 ⊢
  have hset : ((w.alloc (.cells cs.toArray 66 (0, 0))).alloc (.cells #[.int .i64 0, .int .i64 0, .slice none 0 0, .int .i64 0, .int .i64 0, .bool false, .bool false, .bool false, .bool false, .bool false, .bool false, .bool false, .bool false, .string { data := #[] }, .string { data := #[] }, .string { data := #[] }, .string { data := #[] }, .int .i64 0, .int .i64 0, .int .i64 0, .int .i64 0, .int .i64 0, .int .i64 0, .int .i64 0, .int .i64 0, .int .i64 0, .slice none 0 0] 66 (0, 0))).setCell ⟨w.heap.size, 1, none⟩ (.int .i64 0) = (w.alloc (.cells ds.toArray 66 (0, 0))).alloc (.cells #[.int .i64 0, .int .i64 0, .slice none 0 0, .int .i64 0, .int .i64 0, .bool false, .bool false, .bool false, .bool false, .bool false, .bool false, .bool false, .bool false, .string { data := #[] }, .string { data := #[] }, .string { data := #[] }, .string { data := #[] }, .int .i64 0, .int .i64 0, .int .i64 0, .int .i64 0, .int .i64 0, .int .i64 0, .int .i64 0, .int .i64 0, .int .i64 0, .slice none 0 0] 66 (0, 0)) := by
    subst hds
    rw [World.setCell_alloc_past _ _ _ _ (by simp), World.setCell_alloc_new, List.setIfInBounds_toArray]
  have R := Aside0.mk (show ((w.alloc (.cells ds.toArray 66 (0, 0))).alloc (.cells #[.int .i64 0, .int .i64 0, .slice none 0 0, .int .i64 0, .int .i64 0, .bool false, .bool false, .bool false, .bool false, .bool false, .bool false, .bool false, .bool false, .string { data := #[] }, .string { data := #[] }, .string { data := #[] }, .string { data := #[] }, .int .i64 0, .int .i64 0, .int .i64 0, .int .i64 0, .int .i64 0, .int .i64 0, .int .i64 0, .int .i64 0, .int .i64 0, .slice none 0 0] 66 (0, 0))).rangeAt w.heap.size 0 ds from fun j v hj => by rw [blk_cell (blk_alloc (blk_new w (.cells ds.toArray 66 (0, 0))) _)]; simpa using hj)
  have L := Aside0.mk (show (Try.prog.info? 66).map (·.size) = some ds.length by rw [info66s, hl])
  have hz3 := run_storeCells_new (P := Try.prog) (w.alloc (.cells ds.toArray 66 (0, 0))) 66 #[.int .i64 0, .int .i64 0, .slice none 0 0, .int .i64 0, .int .i64 0, .bool false, .bool false, .bool false, .bool false, .bool false, .bool false, .bool false, .bool false, .string { data := #[] }, .string { data := #[] }, .string { data := #[] }, .string { data := #[] }, .int .i64 0, .int .i64 0, .int .i64 0, .int .i64 0, .int .i64 0, .int .i64 0, .int .i64 0, .int .i64 0, .int .i64 0, .slice none 0 0] ds.toArray (by rw [info66s]; simp [hl]) (by simp [hl]) (by simpa using h1)
  rw [show (w.alloc (.cells ds.toArray 66 (0, 0))).heap.size = w.heap.size + 1 by simp] at hz3
  have hsz : (Try.prog.info? 66).map (·.size) = some ds.toArray.size := by rw [info66s]; simp [hl]
  have HZ := Aside0.mk hsz
  clear h1 h0 hsz hy h10 hl0 hds
  go_enter Try.func42, Try.ntmps42
  go_wp2_with (first | (refine wpList_load_mid rfl 66 (.tmp 1) rfl w.heap.size 0 rfl ds _ R.out Try.underlying66 rfl L.out ?_))
  refine bodyPost_ret (results_cell_row rfl _ _ (w.heap.size + 1) 66 _ (0, 0) _ rfl (two_new _ _ _) Try.underlying66 rfl HZ.out) rfl ⟨rfl, ((Below.refl _ w).alloc (Nat.le_refl _) _).alloc (by simp) _⟩
set_option maxHeartbeats 8000000 in
set_option maxRecDepth 100000 in
theorem bare5.calls (cs : List Value) (y : Value) (w : World) (hl0 : cs.length = 27) (h10 : ∀ u ∈ cs, u.oneCell' = true) (h0 : cs[0]? = some (.int .i64 5)) (hy : cs[1]? = some y) :
    Calls Try.prog 42 #[.agg cs.toArray] w fun e w' => e = .returned (.agg (cs.set 1 (.int .i64 0)).toArray) ∧ Below w.heap.size w w' := by
  have x0 : ((w.alloc (.cells cs.toArray 66 (0, 0))).alloc (.cells #[.int .i64 0, .int .i64 0, .slice none 0 0, .int .i64 0, .int .i64 0, .bool false, .bool false, .bool false, .bool false, .bool false, .bool false, .bool false, .bool false, .string { data := #[] }, .string { data := #[] }, .string { data := #[] }, .string { data := #[] }, .int .i64 0, .int .i64 0, .int .i64 0, .int .i64 0, .int .i64 0, .int .i64 0, .int .i64 0, .int .i64 0, .int .i64 0, .slice none 0 0] 66 (0, 0))).cell? ⟨w.heap.size, 0, none⟩ = some (.int .i64 5) := by
    rw [blk_cell (blk_alloc (blk_new w (.cells cs.toArray 66 (0, 0))) _)]; simpa using h0
  have x1 : ((w.alloc (.cells cs.toArray 66 (0, 0))).alloc (.cells #[.int .i64 0, .int .i64 0, .slice none 0 0, .int .i64 0, .int .i64 0, .bool false, .bool false, .bool false, .bool false, .bool false, .bool false, .bool false, .bool false, .string { data := #[] }, .string { data := #[] }, .string { data := #[] }, .string { data := #[] }, .int .i64 0, .int .i64 0, .int .i64 0, .int .i64 0, .int .i64 0, .int .i64 0, .int .i64 0, .int .i64 0, .int .i64 0, .slice none 0 0] 66 (0, 0))).cell? ⟨w.heap.size, 1, none⟩ = some y := by
    rw [blk_cell (blk_alloc (blk_new w (.cells cs.toArray 66 (0, 0))) _)]; simpa using hy
  have hl : (cs.set 1 (.int .i64 0)).length = 27 := by simp [hl0]
  have h1 : ∀ u ∈ cs.set 1 (.int .i64 0), u.oneCell' = true := fun u hu => by rcases List.mem_or_eq_of_mem_set hu with h | rfl; exact h10 u h; rfl
  obtain ⟨ds, hds⟩ : ∃ ds, ds = cs.set 1 (.int .i64 0) := ⟨_, rfl⟩
  rw [← hds] at hl h1 ⊢
  have hset : ((w.alloc (.cells cs.toArray 66 (0, 0))).alloc (.cells #[.int .i64 0, .int .i64 0, .slice none 0 0, .int .i64 0, .int .i64 0, .bool false, .bool false, .bool false, .bool false, .bool false, .bool false, .bool false, .bool false, .string { data := #[] }, .string { data := #[] }, .string { data := #[] }, .string { data := #[] }, .int .i64 0, .int .i64 0, .int .i64 0, .int .i64 0, .int .i64 0, .int .i64 0, .int .i64 0, .int .i64 0, .int .i64 0, .slice none 0 0] 66 (0, 0))).setCell ⟨w.heap.size, 1, none⟩ (.int .i64 0) = (w.alloc (.cells ds.toArray 66 (0, 0))).alloc (.cells #[.int .i64 0, .int .i64 0, .slice none 0 0, .int .i64 0, .int .i64 0, .bool false, .bool false, .bool false, .bool false, .bool false, .bool false, .bool false, .bool false, .string { data := #[] }, .string { data := #[] }, .string { data := #[] }, .string { data := #[] }, .int .i64 0, .int .i64 0, .int .i64 0, .int .i64 0, .int .i64 0, .int .i64 0, .int .i64 0, .int .i64 0, .int .i64 0, .slice none 0 0] 66 (0, 0)) := by
    subst hds
    rw [World.setCell_alloc_past _ _ _ _ (by simp), World.setCell_alloc_new, List.setIfInBounds_toArray]
  have R := Aside0.mk (show ((w.alloc (.cells ds.toArray 66 (0, 0))).alloc (.cells #[.int .i64 0, .int .i64 0, .slice none 0 0, .int .i64 0, .int .i64 0, .bool false, .bool false, .bool false, .bool false, .bool false, .bool false, .bool false, .bool false, .string { data := #[] }, .string { data := #[] }, .string { data := #[] }, .string { data := #[] }, .int .i64 0, .int .i64 0, .int .i64 0, .int .i64 0, .int .i64 0, .int .i64 0, .int .i64 0, .int .i64 0, .int .i64 0, .slice none 0 0] 66 (0, 0))).rangeAt w.heap.size 0 ds from fun j v hj => by rw [blk_cell (blk_alloc (blk_new w (.cells ds.toArray 66 (0, 0))) _)]; simpa using hj)
  have L := Aside0.mk (show (Try.prog.info? 66).map (·.size) = some ds.length by rw [info66s, hl])
  have hz3 := run_storeCells_new (P := Try.prog) (w.alloc (.cells ds.toArray 66 (0, 0))) 66 #[.int .i64 0, .int .i64 0, .slice none 0 0, .int .i64 0, .int .i64 0, .bool false, .bool false, .bool false, .bool false, .bool false, .bool false, .bool false, .bool false, .string { data := #[] }, .string { data := #[] }, .string { data := #[] }, .string { data := #[] }, .int .i64 0, .int .i64 0, .int .i64 0, .int .i64 0, .int .i64 0, .int .i64 0, .int .i64 0, .int .i64 0, .int .i64 0, .slice none 0 0] ds.toArray (by rw [info66s]; simp [hl]) (by simp [hl]) (by simpa using h1)
  rw [show (w.alloc (.cells ds.toArray 66 (0, 0))).heap.size = w.heap.size + 1 by simp] at hz3
  have hsz : (Try.prog.info? 66).map (·.size) = some ds.toArray.size := by rw [info66s]; simp [hl]
  have HZ := Aside0.mk hsz
  clear h1 h0 hsz hy h10 hl0 hds
  go_enter Try.func42, Try.ntmps42
  go_wp2_with (first | (refine wpList_load_mid rfl 66 (.tmp 1) rfl w.heap.size 0 rfl ds _ R.out Try.underlying66 rfl L.out ?_))
  refine bodyPost_ret (results_cell_row rfl _ _ (w.heap.size + 1) 66 _ (0, 0) _ rfl (two_new _ _ _) Try.underlying66 rfl HZ.out) rfl ⟨rfl, ((Below.refl _ w).alloc (Nat.le_refl _) _).alloc (by simp) _⟩
set_option maxHeartbeats 8000000 in
set_option maxRecDepth 100000 in
theorem bare7.calls (cs : List Value) (y : Value) (w : World) (hl0 : cs.length = 27) (h10 : ∀ u ∈ cs, u.oneCell' = true) (h0 : cs[0]? = some (.int .i64 7)) (hy : cs[1]? = some y) :
    Calls Try.prog 42 #[.agg cs.toArray] w fun e w' => e = .returned (.agg (cs.set 1 (.int .i64 0)).toArray) ∧ Below w.heap.size w w' := by
  have x0 : ((w.alloc (.cells cs.toArray 66 (0, 0))).alloc (.cells #[.int .i64 0, .int .i64 0, .slice none 0 0, .int .i64 0, .int .i64 0, .bool false, .bool false, .bool false, .bool false, .bool false, .bool false, .bool false, .bool false, .string { data := #[] }, .string { data := #[] }, .string { data := #[] }, .string { data := #[] }, .int .i64 0, .int .i64 0, .int .i64 0, .int .i64 0, .int .i64 0, .int .i64 0, .int .i64 0, .int .i64 0, .int .i64 0, .slice none 0 0] 66 (0, 0))).cell? ⟨w.heap.size, 0, none⟩ = some (.int .i64 7) := by
    rw [blk_cell (blk_alloc (blk_new w (.cells cs.toArray 66 (0, 0))) _)]; simpa using h0
  have x1 : ((w.alloc (.cells cs.toArray 66 (0, 0))).alloc (.cells #[.int .i64 0, .int .i64 0, .slice none 0 0, .int .i64 0, .int .i64 0, .bool false, .bool false, .bool false, .bool false, .bool false, .bool false, .bool false, .bool false, .string { data := #[] }, .string { data := #[] }, .string { data := #[] }, .string { data := #[] }, .int .i64 0, .int .i64 0, .int .i64 0, .int .i64 0, .int .i64 0, .int .i64 0, .int .i64 0, .int .i64 0, .int .i64 0, .slice none 0 0] 66 (0, 0))).cell? ⟨w.heap.size, 1, none⟩ = some y := by
    rw [blk_cell (blk_alloc (blk_new w (.cells cs.toArray 66 (0, 0))) _)]; simpa using hy
  have hl : (cs.set 1 (.int .i64 0)).length = 27 := by simp [hl0]
  have h1 : ∀ u ∈ cs.set 1 (.int .i64 0), u.oneCell' = true := fun u hu => by rcases List.mem_or_eq_of_mem_set hu with h | rfl; exact h10 u h; rfl
  obtain ⟨ds, hds⟩ : ∃ ds, ds = cs.set 1 (.int .i64 0) := ⟨_, rfl⟩
  rw [← hds] at hl h1 ⊢
  have hset : ((w.alloc (.cells cs.toArray 66 (0, 0))).alloc (.cells #[.int .i64 0, .int .i64 0, .slice none 0 0, .int .i64 0, .int .i64 0, .bool false, .bool false, .bool false, .bool false, .bool false, .bool false, .bool false, .bool false, .string { data := #[] }, .string { data := #[] }, .string { data := #[] }, .string { data := #[] }, .int .i64 0, .int .i64 0, .int .i64 0, .int .i64 0, .int .i64 0, .int .i64 0, .int .i64 0, .int .i64 0, .int .i64 0, .slice none 0 0] 66 (0, 0))).setCell ⟨w.heap.size, 1, none⟩ (.int .i64 0) = (w.alloc (.cells ds.toArray 66 (0, 0))).alloc (.cells #[.int .i64 0, .int .i64 0, .slice none 0 0, .int .i64 0, .int .i64 0, .bool false, .bool false, .bool false, .bool false, .bool false, .bool false, .bool false, .bool false, .string { data := #[] }, .string { data := #[] }, .string { data := #[] }, .string { data := #[] }, .int .i64 0, .int .i64 0, .int .i64 0, .int .i64 0, .int .i64 0, .int .i64 0, .int .i64 0, .int .i64 0, .int .i64 0, .slice none 0 0] 66 (0, 0)) := by
    subst hds
    rw [World.setCell_alloc_past _ _ _ _ (by simp), World.setCell_alloc_new, List.setIfInBounds_toArray]
  have R := Aside0.mk (show ((w.alloc (.cells ds.toArray 66 (0, 0))).alloc (.cells #[.int .i64 0, .int .i64 0, .slice none 0 0, .int .i64 0, .int .i64 0, .bool false, .bool false, .bool false, .bool false, .bool false, .bool false, .bool false, .bool false, .string { data := #[] }, .string { data := #[] }, .string { data := #[] }, .string { data := #[] }, .int .i64 0, .int .i64 0, .int .i64 0, .int .i64 0, .int .i64 0, .int .i64 0, .int .i64 0, .int .i64 0, .int .i64 0, .slice none 0 0] 66 (0, 0))).rangeAt w.heap.size 0 ds from fun j v hj => by rw [blk_cell (blk_alloc (blk_new w (.cells ds.toArray 66 (0, 0))) _)]; simpa using hj)
  have L := Aside0.mk (show (Try.prog.info? 66).map (·.size) = some ds.length by rw [info66s, hl])
  have hz3 := run_storeCells_new (P := Try.prog) (w.alloc (.cells ds.toArray 66 (0, 0))) 66 #[.int .i64 0, .int .i64 0, .slice none 0 0, .int .i64 0, .int .i64 0, .bool false, .bool false, .bool false, .bool false, .bool false, .bool false, .bool false, .bool false, .string { data := #[] }, .string { data := #[] }, .string { data := #[] }, .string { data := #[] }, .int .i64 0, .int .i64 0, .int .i64 0, .int .i64 0, .int .i64 0, .int .i64 0, .int .i64 0, .int .i64 0, .int .i64 0, .slice none 0 0] ds.toArray (by rw [info66s]; simp [hl]) (by simp [hl]) (by simpa using h1)
  rw [show (w.alloc (.cells ds.toArray 66 (0, 0))).heap.size = w.heap.size + 1 by simp] at hz3
  have hsz : (Try.prog.info? 66).map (·.size) = some ds.toArray.size := by rw [info66s]; simp [hl]
  have HZ := Aside0.mk hsz
  clear h1 h0 hsz hy h10 hl0 hds
  go_enter Try.func42, Try.ntmps42
  go_wp2_with (first | (refine wpList_load_mid rfl 66 (.tmp 1) rfl w.heap.size 0 rfl ds _ R.out Try.underlying66 rfl L.out ?_))
  refine bodyPost_ret (results_cell_row rfl _ _ (w.heap.size + 1) 66 _ (0, 0) _ rfl (two_new _ _ _) Try.underlying66 rfl HZ.out) rfl ⟨rfl, ((Below.refl _ w).alloc (Nat.le_refl _) _).alloc (by simp) _⟩
set_option maxHeartbeats 8000000 in
set_option maxRecDepth 100000 in
theorem bare8.calls (cs : List Value) (y : Value) (w : World) (hl0 : cs.length = 27) (h10 : ∀ u ∈ cs, u.oneCell' = true) (h0 : cs[0]? = some (.int .i64 8)) (hy : cs[1]? = some y) :
    Calls Try.prog 42 #[.agg cs.toArray] w fun e w' => e = .returned (.agg (cs.set 1 (.int .i64 0)).toArray) ∧ Below w.heap.size w w' := by
  have x0 : ((w.alloc (.cells cs.toArray 66 (0, 0))).alloc (.cells #[.int .i64 0, .int .i64 0, .slice none 0 0, .int .i64 0, .int .i64 0, .bool false, .bool false, .bool false, .bool false, .bool false, .bool false, .bool false, .bool false, .string { data := #[] }, .string { data := #[] }, .string { data := #[] }, .string { data := #[] }, .int .i64 0, .int .i64 0, .int .i64 0, .int .i64 0, .int .i64 0, .int .i64 0, .int .i64 0, .int .i64 0, .int .i64 0, .slice none 0 0] 66 (0, 0))).cell? ⟨w.heap.size, 0, none⟩ = some (.int .i64 8) := by
    rw [blk_cell (blk_alloc (blk_new w (.cells cs.toArray 66 (0, 0))) _)]; simpa using h0
  have x1 : ((w.alloc (.cells cs.toArray 66 (0, 0))).alloc (.cells #[.int .i64 0, .int .i64 0, .slice none 0 0, .int .i64 0, .int .i64 0, .bool false, .bool false, .bool false, .bool false, .bool false, .bool false, .bool false, .bool false, .string { data := #[] }, .string { data := #[] }, .string { data := #[] }, .string { data := #[] }, .int .i64 0, .int .i64 0, .int .i64 0, .int .i64 0, .int .i64 0, .int .i64 0, .int .i64 0, .int .i64 0, .int .i64 0, .slice none 0 0] 66 (0, 0))).cell? ⟨w.heap.size, 1, none⟩ = some y := by
    rw [blk_cell (blk_alloc (blk_new w (.cells cs.toArray 66 (0, 0))) _)]; simpa using hy
  have hl : (cs.set 1 (.int .i64 0)).length = 27 := by simp [hl0]
  have h1 : ∀ u ∈ cs.set 1 (.int .i64 0), u.oneCell' = true := fun u hu => by rcases List.mem_or_eq_of_mem_set hu with h | rfl; exact h10 u h; rfl
  obtain ⟨ds, hds⟩ : ∃ ds, ds = cs.set 1 (.int .i64 0) := ⟨_, rfl⟩
  rw [← hds] at hl h1 ⊢
  have hset : ((w.alloc (.cells cs.toArray 66 (0, 0))).alloc (.cells #[.int .i64 0, .int .i64 0, .slice none 0 0, .int .i64 0, .int .i64 0, .bool false, .bool false, .bool false, .bool false, .bool false, .bool false, .bool false, .bool false, .string { data := #[] }, .string { data := #[] }, .string { data := #[] }, .string { data := #[] }, .int .i64 0, .int .i64 0, .int .i64 0, .int .i64 0, .int .i64 0, .int .i64 0, .int .i64 0, .int .i64 0, .int .i64 0, .slice none 0 0] 66 (0, 0))).setCell ⟨w.heap.size, 1, none⟩ (.int .i64 0) = (w.alloc (.cells ds.toArray 66 (0, 0))).alloc (.cells #[.int .i64 0, .int .i64 0, .slice none 0 0, .int .i64 0, .int .i64 0, .bool false, .bool false, .bool false, .bool false, .bool false, .bool false, .bool false, .bool false, .string { data := #[] }, .string { data := #[] }, .string { data := #[] }, .string { data := #[] }, .int .i64 0, .int .i64 0, .int .i64 0, .int .i64 0, .int .i64 0, .int .i64 0, .int .i64 0, .int .i64 0, .int .i64 0, .slice none 0 0] 66 (0, 0)) := by
    subst hds
    rw [World.setCell_alloc_past _ _ _ _ (by simp), World.setCell_alloc_new, List.setIfInBounds_toArray]
  have R := Aside0.mk (show ((w.alloc (.cells ds.toArray 66 (0, 0))).alloc (.cells #[.int .i64 0, .int .i64 0, .slice none 0 0, .int .i64 0, .int .i64 0, .bool false, .bool false, .bool false, .bool false, .bool false, .bool false, .bool false, .bool false, .string { data := #[] }, .string { data := #[] }, .string { data := #[] }, .string { data := #[] }, .int .i64 0, .int .i64 0, .int .i64 0, .int .i64 0, .int .i64 0, .int .i64 0, .int .i64 0, .int .i64 0, .int .i64 0, .slice none 0 0] 66 (0, 0))).rangeAt w.heap.size 0 ds from fun j v hj => by rw [blk_cell (blk_alloc (blk_new w (.cells ds.toArray 66 (0, 0))) _)]; simpa using hj)
  have L := Aside0.mk (show (Try.prog.info? 66).map (·.size) = some ds.length by rw [info66s, hl])
  have hz3 := run_storeCells_new (P := Try.prog) (w.alloc (.cells ds.toArray 66 (0, 0))) 66 #[.int .i64 0, .int .i64 0, .slice none 0 0, .int .i64 0, .int .i64 0, .bool false, .bool false, .bool false, .bool false, .bool false, .bool false, .bool false, .bool false, .string { data := #[] }, .string { data := #[] }, .string { data := #[] }, .string { data := #[] }, .int .i64 0, .int .i64 0, .int .i64 0, .int .i64 0, .int .i64 0, .int .i64 0, .int .i64 0, .int .i64 0, .int .i64 0, .slice none 0 0] ds.toArray (by rw [info66s]; simp [hl]) (by simp [hl]) (by simpa using h1)
  rw [show (w.alloc (.cells ds.toArray 66 (0, 0))).heap.size = w.heap.size + 1 by simp] at hz3
  have hsz : (Try.prog.info? 66).map (·.size) = some ds.toArray.size := by rw [info66s]; simp [hl]
  have HZ := Aside0.mk hsz
  clear h1 h0 hsz hy h10 hl0 hds
  go_enter Try.func42, Try.ntmps42
  go_wp2_with (first | (refine wpList_load_mid rfl 66 (.tmp 1) rfl w.heap.size 0 rfl ds _ R.out Try.underlying66 rfl L.out ?_))
  refine bodyPost_ret (results_cell_row rfl _ _ (w.heap.size + 1) 66 _ (0, 0) _ rfl (two_new _ _ _) Try.underlying66 rfl HZ.out) rfl ⟨rfl, ((Below.refl _ w).alloc (Nat.le_refl _) _).alloc (by simp) _⟩
set_option maxHeartbeats 8000000 in
set_option maxRecDepth 100000 in
theorem bare1.calls (cs : List Value) (y : Value) (w : World) (hl0 : cs.length = 27) (h10 : ∀ u ∈ cs, u.oneCell' = true) (h0 : cs[0]? = some (.int .i64 1)) (hy : cs[2]? = some y) :
    Calls Try.prog 42 #[.agg cs.toArray] w fun e w' => e = .returned (.agg (cs.set 2 (.slice none 0 0)).toArray) ∧ Below w.heap.size w w' := by
  have x0 : ((w.alloc (.cells cs.toArray 66 (0, 0))).alloc (.cells #[.int .i64 0, .int .i64 0, .slice none 0 0, .int .i64 0, .int .i64 0, .bool false, .bool false, .bool false, .bool false, .bool false, .bool false, .bool false, .bool false, .string { data := #[] }, .string { data := #[] }, .string { data := #[] }, .string { data := #[] }, .int .i64 0, .int .i64 0, .int .i64 0, .int .i64 0, .int .i64 0, .int .i64 0, .int .i64 0, .int .i64 0, .int .i64 0, .slice none 0 0] 66 (0, 0))).cell? ⟨w.heap.size, 0, none⟩ = some (.int .i64 1) := by
    rw [blk_cell (blk_alloc (blk_new w (.cells cs.toArray 66 (0, 0))) _)]; simpa using h0
  have x1 : ((w.alloc (.cells cs.toArray 66 (0, 0))).alloc (.cells #[.int .i64 0, .int .i64 0, .slice none 0 0, .int .i64 0, .int .i64 0, .bool false, .bool false, .bool false, .bool false, .bool false, .bool false, .bool false, .bool false, .string { data := #[] }, .string { data := #[] }, .string { data := #[] }, .string { data := #[] }, .int .i64 0, .int .i64 0, .int .i64 0, .int .i64 0, .int .i64 0, .int .i64 0, .int .i64 0, .int .i64 0, .int .i64 0, .slice none 0 0] 66 (0, 0))).cell? ⟨w.heap.size, 2, none⟩ = some y := by
    rw [blk_cell (blk_alloc (blk_new w (.cells cs.toArray 66 (0, 0))) _)]; simpa using hy
  have hl : (cs.set 2 (.slice none 0 0)).length = 27 := by simp [hl0]
  have h1 : ∀ u ∈ cs.set 2 (.slice none 0 0), u.oneCell' = true := fun u hu => by rcases List.mem_or_eq_of_mem_set hu with h | rfl; exact h10 u h; rfl
  obtain ⟨ds, hds⟩ : ∃ ds, ds = cs.set 2 (.slice none 0 0) := ⟨_, rfl⟩
  rw [← hds] at hl h1 ⊢
  have hset : ((w.alloc (.cells cs.toArray 66 (0, 0))).alloc (.cells #[.int .i64 0, .int .i64 0, .slice none 0 0, .int .i64 0, .int .i64 0, .bool false, .bool false, .bool false, .bool false, .bool false, .bool false, .bool false, .bool false, .string { data := #[] }, .string { data := #[] }, .string { data := #[] }, .string { data := #[] }, .int .i64 0, .int .i64 0, .int .i64 0, .int .i64 0, .int .i64 0, .int .i64 0, .int .i64 0, .int .i64 0, .int .i64 0, .slice none 0 0] 66 (0, 0))).setCell ⟨w.heap.size, 2, none⟩ (.slice none 0 0) = (w.alloc (.cells ds.toArray 66 (0, 0))).alloc (.cells #[.int .i64 0, .int .i64 0, .slice none 0 0, .int .i64 0, .int .i64 0, .bool false, .bool false, .bool false, .bool false, .bool false, .bool false, .bool false, .bool false, .string { data := #[] }, .string { data := #[] }, .string { data := #[] }, .string { data := #[] }, .int .i64 0, .int .i64 0, .int .i64 0, .int .i64 0, .int .i64 0, .int .i64 0, .int .i64 0, .int .i64 0, .int .i64 0, .slice none 0 0] 66 (0, 0)) := by
    subst hds
    rw [World.setCell_alloc_past _ _ _ _ (by simp), World.setCell_alloc_new, List.setIfInBounds_toArray]
  have R := Aside0.mk (show ((w.alloc (.cells ds.toArray 66 (0, 0))).alloc (.cells #[.int .i64 0, .int .i64 0, .slice none 0 0, .int .i64 0, .int .i64 0, .bool false, .bool false, .bool false, .bool false, .bool false, .bool false, .bool false, .bool false, .string { data := #[] }, .string { data := #[] }, .string { data := #[] }, .string { data := #[] }, .int .i64 0, .int .i64 0, .int .i64 0, .int .i64 0, .int .i64 0, .int .i64 0, .int .i64 0, .int .i64 0, .int .i64 0, .slice none 0 0] 66 (0, 0))).rangeAt w.heap.size 0 ds from fun j v hj => by rw [blk_cell (blk_alloc (blk_new w (.cells ds.toArray 66 (0, 0))) _)]; simpa using hj)
  have L := Aside0.mk (show (Try.prog.info? 66).map (·.size) = some ds.length by rw [info66s, hl])
  have hz3 := run_storeCells_new (P := Try.prog) (w.alloc (.cells ds.toArray 66 (0, 0))) 66 #[.int .i64 0, .int .i64 0, .slice none 0 0, .int .i64 0, .int .i64 0, .bool false, .bool false, .bool false, .bool false, .bool false, .bool false, .bool false, .bool false, .string { data := #[] }, .string { data := #[] }, .string { data := #[] }, .string { data := #[] }, .int .i64 0, .int .i64 0, .int .i64 0, .int .i64 0, .int .i64 0, .int .i64 0, .int .i64 0, .int .i64 0, .int .i64 0, .slice none 0 0] ds.toArray (by rw [info66s]; simp [hl]) (by simp [hl]) (by simpa using h1)
  rw [show (w.alloc (.cells ds.toArray 66 (0, 0))).heap.size = w.heap.size + 1 by simp] at hz3
  have hsz : (Try.prog.info? 66).map (·.size) = some ds.toArray.size := by rw [info66s]; simp [hl]
  have HZ := Aside0.mk hsz
  clear h1 h0 hsz hy h10 hl0 hds
  go_enter Try.func42, Try.ntmps42
  go_wp2_with (first | (refine wpList_load_mid rfl 66 (.tmp 1) rfl w.heap.size 0 rfl ds _ R.out Try.underlying66 rfl L.out ?_))
  refine bodyPost_ret (results_cell_row rfl _ _ (w.heap.size + 1) 66 _ (0, 0) _ rfl (two_new _ _ _) Try.underlying66 rfl HZ.out) rfl ⟨rfl, ((Below.refl _ w).alloc (Nat.le_refl _) _).alloc (by simp) _⟩
set_option maxHeartbeats 8000000 in
set_option maxRecDepth 100000 in
theorem bare6.calls (cs : List Value) (y : Value) (w : World) (hl0 : cs.length = 27) (h10 : ∀ u ∈ cs, u.oneCell' = true) (h0 : cs[0]? = some (.int .i64 6)) (hy : cs[26]? = some y) :
    Calls Try.prog 42 #[.agg cs.toArray] w fun e w' => e = .returned (.agg (cs.set 26 (.slice none 0 0)).toArray) ∧ Below w.heap.size w w' := by
  have x0 : ((w.alloc (.cells cs.toArray 66 (0, 0))).alloc (.cells #[.int .i64 0, .int .i64 0, .slice none 0 0, .int .i64 0, .int .i64 0, .bool false, .bool false, .bool false, .bool false, .bool false, .bool false, .bool false, .bool false, .string { data := #[] }, .string { data := #[] }, .string { data := #[] }, .string { data := #[] }, .int .i64 0, .int .i64 0, .int .i64 0, .int .i64 0, .int .i64 0, .int .i64 0, .int .i64 0, .int .i64 0, .int .i64 0, .slice none 0 0] 66 (0, 0))).cell? ⟨w.heap.size, 0, none⟩ = some (.int .i64 6) := by
    rw [blk_cell (blk_alloc (blk_new w (.cells cs.toArray 66 (0, 0))) _)]; simpa using h0
  have x1 : ((w.alloc (.cells cs.toArray 66 (0, 0))).alloc (.cells #[.int .i64 0, .int .i64 0, .slice none 0 0, .int .i64 0, .int .i64 0, .bool false, .bool false, .bool false, .bool false, .bool false, .bool false, .bool false, .bool false, .string { data := #[] }, .string { data := #[] }, .string { data := #[] }, .string { data := #[] }, .int .i64 0, .int .i64 0, .int .i64 0, .int .i64 0, .int .i64 0, .int .i64 0, .int .i64 0, .int .i64 0, .int .i64 0, .slice none 0 0] 66 (0, 0))).cell? ⟨w.heap.size, 26, none⟩ = some y := by
    rw [blk_cell (blk_alloc (blk_new w (.cells cs.toArray 66 (0, 0))) _)]; simpa using hy
  have hl : (cs.set 26 (.slice none 0 0)).length = 27 := by simp [hl0]
  have h1 : ∀ u ∈ cs.set 26 (.slice none 0 0), u.oneCell' = true := fun u hu => by rcases List.mem_or_eq_of_mem_set hu with h | rfl; exact h10 u h; rfl
  obtain ⟨ds, hds⟩ : ∃ ds, ds = cs.set 26 (.slice none 0 0) := ⟨_, rfl⟩
  rw [← hds] at hl h1 ⊢
  have hset : ((w.alloc (.cells cs.toArray 66 (0, 0))).alloc (.cells #[.int .i64 0, .int .i64 0, .slice none 0 0, .int .i64 0, .int .i64 0, .bool false, .bool false, .bool false, .bool false, .bool false, .bool false, .bool false, .bool false, .string { data := #[] }, .string { data := #[] }, .string { data := #[] }, .string { data := #[] }, .int .i64 0, .int .i64 0, .int .i64 0, .int .i64 0, .int .i64 0, .int .i64 0, .int .i64 0, .int .i64 0, .int .i64 0, .slice none 0 0] 66 (0, 0))).setCell ⟨w.heap.size, 26, none⟩ (.slice none 0 0) = (w.alloc (.cells ds.toArray 66 (0, 0))).alloc (.cells #[.int .i64 0, .int .i64 0, .slice none 0 0, .int .i64 0, .int .i64 0, .bool false, .bool false, .bool false, .bool false, .bool false, .bool false, .bool false, .bool false, .string { data := #[] }, .string { data := #[] }, .string { data := #[] }, .string { data := #[] }, .int .i64 0, .int .i64 0, .int .i64 0, .int .i64 0, .int .i64 0, .int .i64 0, .int .i64 0, .int .i64 0, .int .i64 0, .slice none 0 0] 66 (0, 0)) := by
    subst hds
    rw [World.setCell_alloc_past _ _ _ _ (by simp), World.setCell_alloc_new, List.setIfInBounds_toArray]
  have R := Aside0.mk (show ((w.alloc (.cells ds.toArray 66 (0, 0))).alloc (.cells #[.int .i64 0, .int .i64 0, .slice none 0 0, .int .i64 0, .int .i64 0, .bool false, .bool false, .bool false, .bool false, .bool false, .bool false, .bool false, .bool false, .string { data := #[] }, .string { data := #[] }, .string { data := #[] }, .string { data := #[] }, .int .i64 0, .int .i64 0, .int .i64 0, .int .i64 0, .int .i64 0, .int .i64 0, .int .i64 0, .int .i64 0, .int .i64 0, .slice none 0 0] 66 (0, 0))).rangeAt w.heap.size 0 ds from fun j v hj => by rw [blk_cell (blk_alloc (blk_new w (.cells ds.toArray 66 (0, 0))) _)]; simpa using hj)
  have L := Aside0.mk (show (Try.prog.info? 66).map (·.size) = some ds.length by rw [info66s, hl])
  have hz3 := run_storeCells_new (P := Try.prog) (w.alloc (.cells ds.toArray 66 (0, 0))) 66 #[.int .i64 0, .int .i64 0, .slice none 0 0, .int .i64 0, .int .i64 0, .bool false, .bool false, .bool false, .bool false, .bool false, .bool false, .bool false, .bool false, .string { data := #[] }, .string { data := #[] }, .string { data := #[] }, .string { data := #[] }, .int .i64 0, .int .i64 0, .int .i64 0, .int .i64 0, .int .i64 0, .int .i64 0, .int .i64 0, .int .i64 0, .int .i64 0, .slice none 0 0] ds.toArray (by rw [info66s]; simp [hl]) (by simp [hl]) (by simpa using h1)
  rw [show (w.alloc (.cells ds.toArray 66 (0, 0))).heap.size = w.heap.size + 1 by simp] at hz3
  have hsz : (Try.prog.info? 66).map (·.size) = some ds.toArray.size := by rw [info66s]; simp [hl]
  have HZ := Aside0.mk hsz
  clear h1 h0 hsz hy h10 hl0 hds
  go_enter Try.func42, Try.ntmps42
  go_wp2_with (first | (refine wpList_load_mid rfl 66 (.tmp 1) rfl w.heap.size 0 rfl ds _ R.out Try.underlying66 rfl L.out ?_))
  refine bodyPost_ret (results_cell_row rfl _ _ (w.heap.size + 1) 66 _ (0, 0) _ rfl (two_new _ _ _) Try.underlying66 rfl HZ.out) rfl ⟨rfl, ((Below.refl _ w).alloc (Nat.le_refl _) _).alloc (by simp) _⟩
end Dr
end Go.Proofs.Ytiokjjadpobciaa.P
