import Derived.Test.YtjegkfdcelodeaaAs2
namespace Go.Proofs.Ytjegkfdcelodeaa.P
open Go.RowKit Go.Proofs.YtjegkfdcelodeaaW.PrintWords Go.Proofs.YtjegkfdcelodeaaW.PrintLast Go.Proofs.YtjegkfdcelodeaaW.PrintMore
attribute [local go_sem] max2_int min2_int max_two min_two max_three min_three max_four min_four
set_option linter.unusedVariables false
set_option linter.unusedSimpArgs false
namespace As
theorem kb_cells {p : Nat} {k : Ky} {w : World} (h : KB p k w) : w.cell? ⟨p, 0, none⟩ = some (Value.int .i64 k.h) ∧ w.cell? ⟨p, 1, none⟩ = some (Value.string (k.D 0)) ∧ w.cell? ⟨p, 2, none⟩ = some (Value.string (k.D 1)) ∧ w.cell? ⟨p, 3, none⟩ = some (Value.string (k.D 2)) ∧ w.cell? ⟨p, 4, none⟩ = some (Value.string (k.D 3)) :=
  ⟨blk_cell h.blk 0, blk_cell h.blk 1, blk_cell h.blk 2, blk_cell h.blk 3, blk_cell h.blk 4⟩
theorem grpV_h (q : Qy) (k : Ky) : (grpV q k).h = 0 := rfl
set_option maxHeartbeats 8000000 in
set_option maxRecDepth 100000 in
theorem Group.calls (q : Qy) (k : Ky) (w : World) :
    Calls Try.prog 42 #[.agg q.cells, .agg k.cells] w fun e w' => e = .returned (.agg (grpV q k).cells) ∧ Below w.heap.size w w' := by
  have HQ := Aside0.mk ((QB.new q w).below ((Below.refl _ _).alloc (Nat.le_refl _) (.cells k.cells 60 (0, 0))))
  have HB := Aside0.mk (show Below w.heap.size w ((w.alloc (.cells q.cells 58 (0, 0))).alloc (.cells k.cells 60 (0, 0))) from ((Below.refl _ w).alloc (Nat.le_refl _) _).alloc (by simp) _)
  have HK := Aside0.mk (KB.mk (show ((w.alloc (.cells q.cells 58 (0, 0))).alloc (.cells k.cells 60 (0, 0))).heap[w.heap.size + 1]? = some (.cells k.cells 60 (0, 0)) by simpa using blk_new (w.alloc (.cells q.cells 58 (0, 0))) (.cells k.cells 60 (0, 0))))
  have HQ1 := Aside0.mk (HQ.out.below ((Below.refl _ _).alloc (Nat.le_refl _) (.cells (grpI q k 0).cells 60 (0, 0))))
  have HK1 := Aside0.mk (HK.out.below ((Below.refl _ _).alloc (Nat.le_refl _) (.cells (grpI q k 0).cells 60 (0, 0))))
  have HB1 := Aside0.mk (HB.out.alloc (by simp; omega) (.cells (grpI q k 0).cells 60 (0, 0)))
  have HG1 := Aside0.mk (KB.mk (k := grpI q k 0) (show (((w.alloc (.cells q.cells 58 (0, 0))).alloc (.cells k.cells 60 (0, 0))).alloc (.cells (grpI q k 0).cells 60 (0, 0))).heap[w.heap.size + 2]? = some (.cells (grpI q k 0).cells 60 (0, 0)) by simpa using blk_new ((w.alloc (.cells q.cells 58 (0, 0))).alloc (.cells k.cells 60 (0, 0))) (.cells (grpI q k 0).cells 60 (0, 0))))
  clear HQ HK HB
  have hg0 : (grpI q k 0).cells = #[.int .i64 0, .string { data := #[] }, .string { data := #[] }, .string { data := #[] }, .string { data := #[] }] := by simp [Ky.cells, grpI]
  rw [hg0] at HQ1 HK1 HB1 HG1
  unfold Qy.cells at HQ1 HK1 HB1 HG1 ⊢
  unfold Ky.cells at HQ1 HK1 HB1 HG1
  have hk : k.cells = #[.int .i64 k.h, .string (k.D 0), .string (k.D 1), .string (k.D 2), .string (k.D 3)] := rfl
  rw [hk]
  clear hk hg0
  go_enter Try.func42, Try.ntmps42
  go_wp2
  generalize World.alloc _ _ = W at HQ1 HK1 HB1 HG1 ⊢
  go_loopw [5, 6, 9] (fun x5 x6 x9 wr => ∃ i : Nat, x9 = .int .i64 i ∧ i ≤ 4 ∧ Aside0 (QB w.heap.size q wr) ∧ Aside0 (KB (w.heap.size + 1) k wr) ∧ Aside0 (KB (w.heap.size + 2) (grpI q k i) wr) ∧ Aside0 (Below w.heap.size w wr)) (fun _ _ x9 _ => 4 - (intOf x9).toNat)
  case atStart => exact ⟨0, rfl, by omega, HQ1, HK1, HG1, HB1⟩
  case round =>
    clear HQ1 HK1 HG1 HB1
    obtain ⟨i, rfl, hi, HQ, HK, HG, HB⟩ := hrel
    by_cases d : i < 4
    · have dl : decide ((i : Int) < 4) = true := decide_eq_true (by omega)
      have b1 : (0 : Int) ≤ (i : Int) := by omega
      have b2 : (i : Int) < 4 := by omega
      have hw : wrap64 ((i : Int) + 1) = ((i + 1 : Nat) : Int) := by unfold wrap64; omega
      have f1 := HK.out.cD d
      have f2 := HG.out.cD d
      have f3 := HG.out.fr (1 + i)
      have hix := idx_b q.G d
      cases hG : q.G i
      · rw [hG] at hix
        go_wp2
        go_roundw
        case rel => exact ⟨i + 1, rfl, by omega, HQ, HK, ⟨HG.out.eq (grp_skip q k d hG)⟩, HB⟩
        case measure => simp only [intOf]; omega
      · rw [hG] at hix
        go_wp2
        go_roundw
        case rel => exact ⟨i + 1, rfl, by omega, ⟨HQ.out.set (by omega) _ _⟩, ⟨HK.out.other (by omega) _ _⟩, ⟨HG.out.set d _ (grp_set q k d hG)⟩, ⟨HB.out.setCell (by first | (simp; done) | (simp; omega)) _⟩⟩
        case measure => simp only [intOf]; omega
    · obtain rfl : i = 4 := by omega
      have dl : decide (((4 : Nat) : Int) < 4) = false := rfl
      have HE := HG.out.eq (grp_end q k)
      obtain ⟨g0, g1, g2, g3, g4⟩ := kb_cells HE
      rw [grpV_h] at g0
      have t0 := blk_frozen HE.blk 0
      have t1 := blk_frozen HE.blk 1
      have t2 := blk_frozen HE.blk 2
      have t3 := blk_frozen HE.blk 3
      have t4 := blk_frozen HE.blk 4
      have HH := Aside0.mk HE.blk
      clear HQ HK HG HE
      go_wp2
      have hF := fin5 (grpV q k) (B := w.heap.size) (w0 := w) HH.out HB.out (by omega)
      refine bodyPost_ret (results_cell_row rfl _ _ (w.heap.size + 2) 60 _ (0, 0) _ rfl hF.heap Try.underlying60 rfl (by kernel_rfl)) rfl ⟨rfl, hF.below⟩
set_option maxHeartbeats 8000000 in
set_option maxRecDepth 100000 in
theorem RGroup.calls (q : Qy) (k : Ky) (w : World) :
    Calls Try.prog 43 #[.agg q.cells, .agg k.cells] w fun e w' => e = .returned (.agg (grpV q k).cells) ∧ Below w.heap.size w w' := by
  have HQ := Aside0.mk ((QB.new q w).below ((Below.refl _ _).alloc (Nat.le_refl _) (.cells k.cells 60 (0, 0))))
  have HB := Aside0.mk (show Below w.heap.size w ((w.alloc (.cells q.cells 58 (0, 0))).alloc (.cells k.cells 60 (0, 0))) from ((Below.refl _ w).alloc (Nat.le_refl _) _).alloc (by simp) _)
  have HK := Aside0.mk (KB.mk (show ((w.alloc (.cells q.cells 58 (0, 0))).alloc (.cells k.cells 60 (0, 0))).heap[w.heap.size + 1]? = some (.cells k.cells 60 (0, 0)) by simpa using blk_new (w.alloc (.cells q.cells 58 (0, 0))) (.cells k.cells 60 (0, 0))))
  have HQ1 := Aside0.mk (HQ.out.below ((Below.refl _ _).alloc (Nat.le_refl _) (.cells (grpI q k 0).cells 60 (0, 0))))
  have HK1 := Aside0.mk (HK.out.below ((Below.refl _ _).alloc (Nat.le_refl _) (.cells (grpI q k 0).cells 60 (0, 0))))
  have HB1 := Aside0.mk (HB.out.alloc (by simp; omega) (.cells (grpI q k 0).cells 60 (0, 0)))
  have HG1 := Aside0.mk (KB.mk (k := grpI q k 0) (show (((w.alloc (.cells q.cells 58 (0, 0))).alloc (.cells k.cells 60 (0, 0))).alloc (.cells (grpI q k 0).cells 60 (0, 0))).heap[w.heap.size + 2]? = some (.cells (grpI q k 0).cells 60 (0, 0)) by simpa using blk_new ((w.alloc (.cells q.cells 58 (0, 0))).alloc (.cells k.cells 60 (0, 0))) (.cells (grpI q k 0).cells 60 (0, 0))))
  clear HQ HK HB
  have HQ2 := Aside0.mk (HQ1.out.below ((Below.refl _ _).alloc (Nat.le_refl _) (.cells (grpI q k 0).cells 60 (0, 0))))
  have HK2 := Aside0.mk (HK1.out.below ((Below.refl _ _).alloc (Nat.le_refl _) (.cells (grpI q k 0).cells 60 (0, 0))))
  have HB2 := Aside0.mk (HB1.out.alloc (by simp; omega) (.cells (grpI q k 0).cells 60 (0, 0)))
  have HR2 := Aside0.mk (HG1.out.below ((Below.refl _ _).alloc (Nat.le_refl _) (.cells (grpI q k 0).cells 60 (0, 0))))
  have HG2 := Aside0.mk (KB.mk (k := grpI q k 0) (show ((((w.alloc (.cells q.cells 58 (0, 0))).alloc (.cells k.cells 60 (0, 0))).alloc (.cells (grpI q k 0).cells 60 (0, 0))).alloc (.cells (grpI q k 0).cells 60 (0, 0))).heap[w.heap.size + 3]? = some (.cells (grpI q k 0).cells 60 (0, 0)) by simpa using blk_new (((w.alloc (.cells q.cells 58 (0, 0))).alloc (.cells k.cells 60 (0, 0))).alloc (.cells (grpI q k 0).cells 60 (0, 0))) (.cells (grpI q k 0).cells 60 (0, 0))))
  clear HQ1 HK1 HB1 HG1
  have hg0 : (grpI q k 0).cells = #[.int .i64 0, .string { data := #[] }, .string { data := #[] }, .string { data := #[] }, .string { data := #[] }] := by simp [Ky.cells, grpI]
  rw [hg0] at HQ2 HK2 HB2 HG2 HR2
  unfold Qy.cells at HQ2 HK2 HB2 HG2 HR2 ⊢
  unfold Ky.cells at HQ2 HK2 HB2 HG2 HR2
  have hk : k.cells = #[.int .i64 k.h, .string (k.D 0), .string (k.D 1), .string (k.D 2), .string (k.D 3)] := rfl
  rw [hk]
  clear hk hg0
  go_enter Try.func43, Try.ntmps43
  go_wp2
  generalize World.alloc _ _ = W at HQ2 HK2 HB2 HG2 HR2 ⊢
  go_loopw [6] (fun x6 wr => ∃ i : Nat, x6 = .int .i64 i ∧ i ≤ 4 ∧ Aside0 (QB w.heap.size q wr) ∧ Aside0 (KB (w.heap.size + 1) k wr) ∧ Aside0 (KB (w.heap.size + 3) (grpI q k i) wr) ∧ Aside0 (Below w.heap.size w wr) ∧ Aside0 (∃ a0 a1 a2 a3 a4 : Value, wr.heap[w.heap.size + 2]? = some (.cells #[a0, a1, a2, a3, a4] 60 (0, 0)))) (fun x6 _ => 4 - (intOf x6).toNat)
  case atStart => exact ⟨0, rfl, by omega, HQ2, HK2, HG2, HB2, ⟨⟨_, _, _, _, _, HR2.out.blk⟩⟩⟩
  case round =>
    clear HQ2 HK2 HG2 HB2 HR2
    obtain ⟨i, rfl, hi, HQ, HK, HG, HB, HR⟩ := hrel
    by_cases d : i < 4
    · have dl : decide ((i : Int) < 4) = true := decide_eq_true (by omega)
      have b1 : (0 : Int) ≤ (i : Int) := by omega
      have b2 : (i : Int) < 4 := by omega
      have hw : wrap64 ((i : Int) + 1) = ((i + 1 : Nat) : Int) := by unfold wrap64; omega
      have f1 := HK.out.cD d
      have f2 := HG.out.cD d
      have f3 := HG.out.fr (1 + i)
      have f4 := HQ.out.cG d
      cases hG : q.G i
      · rw [hG] at f4
        go_wp2
        go_roundw
        case rel => exact ⟨i + 1, rfl, by omega, HQ, HK, ⟨HG.out.eq (grp_skip q k d hG)⟩, HB, HR⟩
        case measure => simp only [intOf]; omega
      · rw [hG] at f4
        go_wp2
        go_roundw
        case rel => exact ⟨i + 1, rfl, by omega, ⟨HQ.out.set (by omega) _ _⟩, ⟨HK.out.other (by omega) _ _⟩, ⟨HG.out.set d _ (grp_set q k d hG)⟩, ⟨HB.out.setCell (by first | (simp; done) | (simp; omega)) _⟩, ⟨let ⟨a0, a1, a2, a3, a4, h⟩ := HR.out; ⟨a0, a1, a2, a3, a4, blk_far h (by simp) _⟩⟩⟩
        case measure => simp only [intOf]; omega
    · obtain rfl : i = 4 := by omega
      have dl : decide (((4 : Nat) : Int) < 4) = false := rfl
      have HE := HG.out.eq (grp_end q k)
      obtain ⟨g0, g1, g2, g3, g4⟩ := kb_cells HE
      rw [grpV_h] at g0
      obtain ⟨a0, a1, a2, a3, a4, hR⟩ := HR.out
      have r0 := blk_cell hR 0
      have r1 := blk_cell hR 1
      have r2 := blk_cell hR 2
      have r3 := blk_cell hR 3
      have r4 := blk_cell hR 4
      have t0 := blk_frozen hR 0
      have t1 := blk_frozen hR 1
      have t2 := blk_frozen hR 2
      have t3 := blk_frozen hR 3
      have t4 := blk_frozen hR 4
      have HH := Aside0.mk hR
      clear HQ HK HG HE HR hR
      go_wp2
      have hF := fin5 (grpV q k) (B := w.heap.size) (w0 := w) HH.out HB.out (by omega)
      refine bodyPost_ret (results_cell_row rfl _ _ (w.heap.size + 2) 60 _ (0, 0) _ rfl hF.heap Try.underlying60 rfl (by kernel_rfl)) rfl ⟨rfl, hF.below⟩
end As
end Go.Proofs.Ytjegkfdcelodeaa.P
