import Derived.Test.YtiokjjadpobciaaDrD
namespace Go.Proofs.Ytiokjjadpobciaa.P
open Go.RowKit Go.Conc Go.Proofs.YtiokjjadpobciaaW.PrintWords Go.Proofs.YtiokjjadpobciaaW.PrintLast Go.Proofs.YtiokjjadpobciaaW.PrintMore
attribute [local go_sem] max2_int min2_int max_two min_two max_three min_three max_four min_four
set_option linter.unusedVariables false
set_option linter.unusedSimpArgs false
namespace Dr
open Ln
/-- Cells from o on. -/
def sets (cs : List Value) : Nat → List Value → List Value
  | _, [] => cs
  | o, v :: r => sets (cs.set o v) (o + 1) r
theorem sets_len (cs : List Value) : ∀ (o : Nat) (vs : List Value), (sets cs o vs).length = cs.length
  | _, [] => rfl
  | o, v :: r => by rw [sets, sets_len (cs.set o v) (o + 1) r, List.length_set]
termination_by _ vs => vs.length
theorem sets_one : ∀ (vs : List Value) (o : Nat) (cs : List Value), (∀ u ∈ cs, u.oneCell' = true) → (∀ u ∈ vs, u.oneCell' = true) → ∀ u ∈ sets cs o vs, u.oneCell' = true
  | [], _, _, h, _ => h
  | v :: r, o, cs, h, hv => sets_one r (o + 1) (cs.set o v) (fun u hu => by rcases List.mem_or_eq_of_mem_set hu with h2 | rfl; exact h u h2; exact hv _ (by simp)) (fun u hu => hv u (by simp [hu]))
theorem setCells_under (w : World) (t : Nat) (ob : Obj) : ∀ (vs : List Value) (o : Nat) (cs : List Value), ((w.alloc (.cells cs.toArray t (0, 0))).alloc ob).setCells w.heap.size o vs = (w.alloc (.cells (sets cs o vs).toArray t (0, 0))).alloc ob
  | [], _, _ => rfl
  | v :: r, o, cs => by
    rw [World.setCells, World.setCell_alloc_past _ _ _ _ (by simp), World.setCell_alloc_new, List.setIfInBounds_toArray, setCells_under w t ob r (o + 1) (cs.set o v)]
    rfl
def qZ0 : List Value := [.int .i64 0, .int .i64 0, .bool false, .bool false, .bool false, .bool false, .bool false, .bool false, .bool false, .bool false, .string { data := #[] }, .string { data := #[] }, .string { data := #[] }, .string { data := #[] }]
set_option maxHeartbeats 8000000 in
set_option maxRecDepth 100000 in
theorem bare2.calls (cs : List Value) (w : World) (hl0 : cs.length = 27) (h10 : ∀ u ∈ cs, u.oneCell' = true) (h0 : cs[0]? = some (.int .i64 2)) :
    Calls Try.prog 42 #[.agg cs.toArray] w fun e w' => e = .returned (.agg (sets cs 3 qZ0).toArray) ∧ Below w.heap.size w w' := by
  have x0 : ((w.alloc (.cells cs.toArray 66 (0, 0))).alloc (.cells #[.int .i64 0, .int .i64 0, .slice none 0 0, .int .i64 0, .int .i64 0, .bool false, .bool false, .bool false, .bool false, .bool false, .bool false, .bool false, .bool false, .string { data := #[] }, .string { data := #[] }, .string { data := #[] }, .string { data := #[] }, .int .i64 0, .int .i64 0, .int .i64 0, .int .i64 0, .int .i64 0, .int .i64 0, .int .i64 0, .int .i64 0, .int .i64 0, .slice none 0 0] 66 (0, 0))).cell? ⟨w.heap.size, 0, none⟩ = some (.int .i64 2) := by
    rw [blk_cell (blk_alloc (blk_new w (.cells cs.toArray 66 (0, 0))) _)]; simpa using h0
  have hl : (sets cs 3 qZ0).length = 27 := by rw [sets_len, hl0]
  have h1 : ∀ u ∈ sets cs 3 qZ0, u.oneCell' = true := sets_one qZ0 3 cs h10 (fun u hu => by simp [qZ0] at hu; rcases hu with rfl | rfl | rfl <;> rfl)
  have hset : ∀ ob : Obj, ((w.alloc (.cells cs.toArray 66 (0, 0))).alloc ob).setCells w.heap.size 3 qZ0 = (w.alloc (.cells (sets cs 3 qZ0).toArray 66 (0, 0))).alloc ob := fun ob => setCells_under w 66 ob qZ0 3 cs
  have ht : ((w.alloc (.cells cs.toArray 66 (0, 0))).alloc (.cells #[.int .i64 0, .int .i64 0, .slice none 0 0, .int .i64 0, .int .i64 0, .bool false, .bool false, .bool false, .bool false, .bool false, .bool false, .bool false, .bool false, .string { data := #[] }, .string { data := #[] }, .string { data := #[] }, .string { data := #[] }, .int .i64 0, .int .i64 0, .int .i64 0, .int .i64 0, .int .i64 0, .int .i64 0, .int .i64 0, .int .i64 0, .int .i64 0, .slice none 0 0] 66 (0, 0))).there w.heap.size 3 14 := fun j hj => by
    have hb := blk_alloc (blk_new w (.cells cs.toArray 66 (0, 0))) (.cells #[.int .i64 0, .int .i64 0, .slice none 0 0, .int .i64 0, .int .i64 0, .bool false, .bool false, .bool false, .bool false, .bool false, .bool false, .bool false, .bool false, .string { data := #[] }, .string { data := #[] }, .string { data := #[] }, .string { data := #[] }, .int .i64 0, .int .i64 0, .int .i64 0, .int .i64 0, .int .i64 0, .int .i64 0, .int .i64 0, .int .i64 0, .int .i64 0, .slice none 0 0] 66 (0, 0))
    refine ⟨?_, blk_frozen hb _⟩
    rw [blk_cell hb]
    simp [hl0]
    omega
  have HT := Aside0.mk ht
  have HQ := Aside0.mk (show qZ0.toArray.all (·.oneCell') = true from all_oneCell_toArray (fun u hu => by simp [qZ0] at hu; rcases hu with rfl | rfl | rfl <;> rfl))
  obtain ⟨ds, hds⟩ : ∃ ds, ds = sets cs 3 qZ0 := ⟨_, rfl⟩
  rw [← hds] at hl h1 ⊢
  have HS := Aside0.mk hset
  have HD := Aside0.mk hds
  have R := Aside0.mk (show ((w.alloc (.cells ds.toArray 66 (0, 0))).alloc (.cells #[.int .i64 0, .int .i64 0, .slice none 0 0, .int .i64 0, .int .i64 0, .bool false, .bool false, .bool false, .bool false, .bool false, .bool false, .bool false, .bool false, .string { data := #[] }, .string { data := #[] }, .string { data := #[] }, .string { data := #[] }, .int .i64 0, .int .i64 0, .int .i64 0, .int .i64 0, .int .i64 0, .int .i64 0, .int .i64 0, .int .i64 0, .int .i64 0, .slice none 0 0] 66 (0, 0))).rangeAt w.heap.size 0 ds from fun j v hj => by rw [blk_cell (blk_alloc (blk_new w (.cells ds.toArray 66 (0, 0))) _)]; simpa using hj)
  have L := Aside0.mk (show (Try.prog.info? 66).map (·.size) = some ds.length by rw [info66s, hl])
  have hz3 := run_storeCells_new (P := Try.prog) (w.alloc (.cells ds.toArray 66 (0, 0))) 66 #[.int .i64 0, .int .i64 0, .slice none 0 0, .int .i64 0, .int .i64 0, .bool false, .bool false, .bool false, .bool false, .bool false, .bool false, .bool false, .bool false, .string { data := #[] }, .string { data := #[] }, .string { data := #[] }, .string { data := #[] }, .int .i64 0, .int .i64 0, .int .i64 0, .int .i64 0, .int .i64 0, .int .i64 0, .int .i64 0, .int .i64 0, .int .i64 0, .slice none 0 0] ds.toArray (by rw [info66s]; simp [hl]) (by simp [hl]) (by simpa using h1)
  rw [show (w.alloc (.cells ds.toArray 66 (0, 0))).heap.size = w.heap.size + 1 by simp] at hz3
  have hsz : (Try.prog.info? 66).map (·.size) = some ds.toArray.size := by rw [info66s]; simp [hl]
  have HZ := Aside0.mk hsz
  have h61 := Aside0.mk (show (Try.prog.info? 61).map (·.size) = some qZ0.toArray.size by kernel_rfl)
  clear h1 h0 hsz h10 hl0 hset ht hds
  go_enter Try.func42, Try.ntmps42
  go_wp2_with (first | (refine wpList_load_mid rfl 66 (.tmp 1) rfl w.heap.size 0 rfl ds _ R.out Try.underlying66 rfl L.out ?_) | (refine wpList_store_mid rfl 61 (.tmp 11) (.tmp 10) rfl w.heap.size 3 qZ0.toArray rfl rfl HT.out h61.out HQ.out ?_; rw [show qZ0.toArray.toList = qZ0 from rfl, HS.out, ← HD.out]))
  refine bodyPost_ret (results_cell_row rfl _ _ (w.heap.size + 1) 66 _ (0, 0) _ rfl (two_new _ _ _) Try.underlying66 rfl HZ.out) rfl ⟨rfl, ((Below.refl _ w).alloc (Nat.le_refl _) _).alloc (by simp) _⟩
end Dr
end Go.Proofs.Ytiokjjadpobciaa.P
