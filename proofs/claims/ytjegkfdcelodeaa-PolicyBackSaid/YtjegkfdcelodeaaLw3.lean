import Derived.Test.YtjegkfdcelodeaaPr
import Derived.Test.YtjegkfdcelodeaaPx5
namespace Go.Proofs.Ytjegkfdcelodeaa.P
open Go.RowKit Go.Proofs.YtjegkfdcelodeaaW.PrintWords Go.Proofs.YtjegkfdcelodeaaW.PrintLast Go.Proofs.YtjegkfdcelodeaaW.PrintMore
attribute [local go_sem] max2_int min2_int max_two min_two max_three min_three max_four min_four
set_option linter.unusedVariables false
set_option linter.unusedSimpArgs false
def pb.T8 : Bool × List (List Nat × List Nat) := (true, [([], []), ([], []), ([], []), ([1, 2], [1, 2]), ([0, 3], [0, 3]), ([], []), ([], []), ([], []), ([6, 7], [6, 7]), ([5, 8, 4], [5, 8]), ([4, 9, 0, 1, 2, 3, 4], [4]), ([9, 10, 0, 1, 2, 3, 4, 5, 6, 7, 8, 9, 10], [9])])
def pb.B8 : List Nat := [0, 0, 0, 6, 15, 0, 0, 0, 192, 511, 1023, 2047]
theorem pb.tab8 : rtab .any (opsOf Try.f12 8) = pb.T8 := by kernel_rfl
theorem pb.bits8 : waitsOk pb.T8.2 pb.B8 = true := by kernel_rfl
open Wr in
set_option maxHeartbeats 8000000 in
set_option maxRecDepth 100000 in
theorem pb.bad (a0 a1 a2 a3 a4 a5 a6 a7 a8 xa xb c : Int) (w : World) (hE : policy_Encode.f a0 a1 a2 a3 a4 a5 a6 a7 a8 = some ([], c)) (hc : policy_Check.f a0 a1 a2 a3 a4 a5 a6 a7 a8 = some c) (c0 : c ≠ 0) (hal : ossuarylaw18_alive.f = some true) :
    Calls Try.prog 12 #[.agg #[.int .i64 a0, .int .i64 a1, .int .i64 a2, .int .i64 a3, .int .i64 a4, .int .i64 a5, .int .i64 a6, .int .i64 a7, .int .i64 a8], .int .i64 xa, .int .i64 xb] w fun e w' => e = .returned (.bool true) ∧ Below w.heap.size w w' := by
  have HE := Aside0.mk hE
  have HC := Aside0.mk hc
  have HAL := Aside0.mk hal
  have c0b : (c != 0) = true := bne_iff_ne.mpr c0
  clear hE hc hal
  have HB := Aside0.mk (show Below w.heap.size w (w.alloc (.cells #[.int .i64 a0, .int .i64 a1, .int .i64 a2, .int .i64 a3, .int .i64 a4, .int .i64 a5, .int .i64 a6, .int .i64 a7, .int .i64 a8] 23 (0, 0))) from (Below.refl _ w).alloc (Nat.le_refl _) _)
  have BK := Aside0.mk (blk_new w (.cells #[.int .i64 a0, .int .i64 a1, .int .i64 a2, .int .i64 a3, .int .i64 a4, .int .i64 a5, .int .i64 a6, .int .i64 a7, .int .i64 a8] 23 (0, 0)))
  have hp0 : w.heap.size ≤ w.heap.size := Nat.le_refl _
  go_enter Try.func12, Try.ntmps12
  go_wp2_with fail
  refine (policy_Encode.calls a0 a1 a2 a3 a4 a5 a6 a7 a8 _ _ _ HE.out).mono ?_
  rintro e w1 ⟨v1, rfl, ho, hb⟩
  obtain ⟨A1, c1, rfl⟩ := Kd.R_slice ho
  clear ho
  have HB1 := Aside0.mk (HB.out.trans (hb.mono HB.out.size))
  have BK1 := Aside0.mk (blk_below BK.out hb)
  clear HB BK hb
  have HB := HB1
  have BK := BK1
  clear HB1 BK1
  have hz0 : w1.cell? ⟨w.heap.size, 0, none⟩ = some (.int .i64 a0) := (blk_cell BK.out 0).trans rfl
  have hz1 : w1.cell? ⟨w.heap.size, 1, none⟩ = some (.int .i64 a1) := (blk_cell BK.out 1).trans rfl
  have hz2 : w1.cell? ⟨w.heap.size, 2, none⟩ = some (.int .i64 a2) := (blk_cell BK.out 2).trans rfl
  have hz3 : w1.cell? ⟨w.heap.size, 3, none⟩ = some (.int .i64 a3) := (blk_cell BK.out 3).trans rfl
  have hz4 : w1.cell? ⟨w.heap.size, 4, none⟩ = some (.int .i64 a4) := (blk_cell BK.out 4).trans rfl
  have hz5 : w1.cell? ⟨w.heap.size, 5, none⟩ = some (.int .i64 a5) := (blk_cell BK.out 5).trans rfl
  have hz6 : w1.cell? ⟨w.heap.size, 6, none⟩ = some (.int .i64 a6) := (blk_cell BK.out 6).trans rfl
  have hz7 : w1.cell? ⟨w.heap.size, 7, none⟩ = some (.int .i64 a7) := (blk_cell BK.out 7).trans rfl
  have hz8 : w1.cell? ⟨w.heap.size, 8, none⟩ = some (.int .i64 a8) := (blk_cell BK.out 8).trans rfl
  have hy0 := blk_frozen BK.out 0
  have hy1 := blk_frozen BK.out 1
  have hy2 := blk_frozen BK.out 2
  have hy3 := blk_frozen BK.out 3
  have hy4 := blk_frozen BK.out 4
  have hy5 := blk_frozen BK.out 5
  have hy6 := blk_frozen BK.out 6
  have hy7 := blk_frozen BK.out 7
  have hy8 := blk_frozen BK.out 8
  go_wp2_with fail
  clear hz0 hy0 hz1 hy1 hz2 hy2 hz3 hy3 hz4 hy4 hz5 hy5 hz6 hy6 hz7 hy7 hz8 hy8
  refine (policy_Check.calls a0 a1 a2 a3 a4 a5 a6 a7 a8 _ _ HC.out).mono ?_
  rintro e w2 ⟨rfl, hb⟩
  have HB2 := Aside0.mk (HB.out.trans (hb.mono HB.out.size))
  have BK2 := Aside0.mk (blk_below BK.out hb)
  clear HB BK hb
  have HB := HB2
  have BK := BK2
  clear HB2 BK2
  go_wp2_with fail
  refine (ossuarylaw18_alive.calls true _ HAL.out).mono ?_
  rintro e w3 ⟨rfl, hb⟩
  have HB3 := Aside0.mk (HB.out.trans (hb.mono HB.out.size))
  have BK3 := Aside0.mk (blk_below BK.out hb)
  clear HB BK hb
  have HB := HB3
  have BK := BK3
  clear HB3 BK3
  go_wp2
  go_ret
  exact ⟨rfl, HB.out⟩
open Wr in
set_option maxHeartbeats 8000000 in
set_option maxRecDepth 100000 in
theorem pb.good (a0 a1 a2 a3 a4 a5 a6 a7 a8 xa xb m n : Int) (X : List Int) (w : World) (hE : policy_Encode.f a0 a1 a2 a3 a4 a5 a6 a7 a8 = some (X, 0)) (hX : X.length ≤ 1000) (hx : ∀ x ∈ X, 0 ≤ x ∧ x < 256)
    (hres : resP (X, 0) = (polA a0 a1 a2 a3 a4 a5 a6 a7 a8, 0)) (hst : stS (X, 0) 9 = ([], 0)) (hm : policy_Delay.f a0 a1 a2 a3 a4 a5 a6 a7 a8 (mn xa xb) = some m) (hn : policy_Delay.f a0 a1 a2 a3 a4 a5 a6 a7 a8 (mx xa xb) = some n)
    (h1 : 1 ≤ m) (h2 : m ≤ n) (h3 : n ≤ a6) (hal : ossuarylaw18_alive.f = some true) :
    Calls Try.prog 12 #[.agg #[.int .i64 a0, .int .i64 a1, .int .i64 a2, .int .i64 a3, .int .i64 a4, .int .i64 a5, .int .i64 a6, .int .i64 a7, .int .i64 a8], .int .i64 xa, .int .i64 xb] w fun e w' => e = .returned (.bool true) ∧ Below w.heap.size w w' := by
  have HE := Aside0.mk hE
  have Hm := Aside0.mk hm
  have Hn := Aside0.mk hn
  have HAL := Aside0.mk hal
  have HRES := Aside0.mk hres
  have HST := Aside0.mk hst
  have HX := Aside0.mk hx
  clear hE hm hn hal hres hst hx
  have HB := Aside0.mk (show Below w.heap.size w (w.alloc (.cells #[.int .i64 a0, .int .i64 a1, .int .i64 a2, .int .i64 a3, .int .i64 a4, .int .i64 a5, .int .i64 a6, .int .i64 a7, .int .i64 a8] 23 (0, 0))) from (Below.refl _ w).alloc (Nat.le_refl _) _)
  have BK := Aside0.mk (blk_new w (.cells #[.int .i64 a0, .int .i64 a1, .int .i64 a2, .int .i64 a3, .int .i64 a4, .int .i64 a5, .int .i64 a6, .int .i64 a7, .int .i64 a8] 23 (0, 0)))
  have hw.heap.size : w.heap.size ≤ w.heap.size := Nat.le_refl _
  go_enter Try.func12, Try.ntmps12
  go_wp2_with fail
  refine (policy_Encode.calls a0 a1 a2 a3 a4 a5 a6 a7 a8 _ _ _ HE.out).mono ?_
  rintro e w1 ⟨v1, rfl, ho, hb⟩
  obtain ⟨A1, c1, rfl, hc1, hC⟩ := Kd.R_reads ho
  have HC := Aside0.mk hC
  clear ho hC
  have HB1 := Aside0.mk (HB.out.trans (hb.mono HB.out.size))
  have BK1 := Aside0.mk (blk_below BK.out hb)
  clear HB BK hb
  have HB := HB1
  have BK := BK1
  clear HB1 BK1
  go_wp2_with fail
  refine (NewReader.calls A1 c1 X w1 HC.out hc1 (by omega)).mono ?_
  rintro e w2 ⟨g, rfl, hg, hr, hb⟩
  have HR := Aside0.mk hr
  have hpg : w.heap.size < g := Nat.lt_of_lt_of_le (blk_lt BK.out) hg
  clear hr HC
  have HB2 := Aside0.mk (HB.out.trans (hb.mono HB.out.size))
  have BK2 := Aside0.mk (blk_below BK.out hb)
  clear HB BK hb
  have HB := HB2
  have BK := BK2
  clear HB2 BK2
  have hset := fun (W : World) => run_storeCells_new (P := Try.prog) W 23 #[.int .i64 0, .int .i64 0, .int .i64 0, .int .i64 0, .int .i64 0, .int .i64 0, .int .i64 0, .int .i64 0, .int .i64 0] (polA a0 a1 a2 a3 a4 a5 a6 a7 a8) (by kernel_rfl) rfl (by simp [polA, Value.oneCell'])
  go_wp2_with fail
  refine (policy_Read.calls w.heap.size g (X, 0) w w2 HX.out HB.out (Nat.le_of_lt hpg) HR.out).mono ?_
  rw [HRES.out, HST.out]
  rintro e w3 ⟨rfl, hr, hb, hf⟩
  have BK3 := Aside0.mk (hf.blk BK.out (by omega))
  clear HB BK HR
  have HB := Aside0.mk hb
  have BK := BK3
  have HR := Aside0.mk hr
  clear hb hr hf BK3
  have HQ := Aside0.mk (blk_new w3 (.cells (polA a0 a1 a2 a3 a4 a5 a6 a7 a8) 23 (0, 0)))
  have hq : (w3.alloc (.cells (polA a0 a1 a2 a3 a4 a5 a6 a7 a8) 23 (0, 0))).heap[w3.heap.size]? = some (.cells #[.int .i64 a0, .int .i64 a1, .int .i64 a2, .int .i64 a3, .int .i64 a4, .int .i64 a5, .int .i64 a6, .int .i64 a7, .int .i64 a8] 23 (0, 0)) := HQ.out
  obtain ⟨q0, q1, q2, q3, q4, q5, q6, q7, q8⟩ := cells9 hq
  have hk := blk_alloc BK.out (.cells (polA a0 a1 a2 a3 a4 a5 a6 a7 a8) 23 (0, 0))
  obtain ⟨z0, z1, z2, z3, z4, z5, z6, z7, z8⟩ := cells9 hk
  clear hq hk
  go_wp2_with fail
  clear q0 q1 q2 q3 q4 q5 q6 q7 q8 z0 z1 z2 z3 z4 z5 z6 z7 z8 hset
  refine (Left.calls g [] 0 _ (HR.out.below ((Below.refl _ w3).alloc (Nat.le_refl _) _))).mono ?_
  rintro e w8 ⟨rfl, hb⟩
  have HB8 := Aside0.mk ((HB.out.alloc HB.out.size (.cells (polA a0 a1 a2 a3 a4 a5 a6 a7 a8) 23 (0, 0))).trans (hb.mono (by have := HB.out.size; simp; omega)))
  have BK8 := Aside0.mk (blk_below (blk_alloc BK.out (.cells (polA a0 a1 a2 a3 a4 a5 a6 a7 a8) 23 (0, 0))) hb)
  clear HB BK hb HR HQ HX HRES HST HE
  try go_wp2_with fail
  have HB := Aside0.mk (below_drew1 HB8.out)
  have BK := Aside0.mk (blk_drew BK8.out)
  clear HB8 BK8
  refine start_ (n := 12) (S := fun w' => w'.cell? ⟨w.heap.size, 0, none⟩ = some (.int .i64 a0) ∧ w'.cell? ⟨w.heap.size, 1, none⟩ = some (.int .i64 a1) ∧ w'.cell? ⟨w.heap.size, 2, none⟩ = some (.int .i64 a2) ∧ w'.cell? ⟨w.heap.size, 3, none⟩ = some (.int .i64 a3) ∧ w'.cell? ⟨w.heap.size, 4, none⟩ = some (.int .i64 a4) ∧ w'.cell? ⟨w.heap.size, 5, none⟩ = some (.int .i64 a5) ∧ w'.cell? ⟨w.heap.size, 6, none⟩ = some (.int .i64 a6) ∧ w'.cell? ⟨w.heap.size, 7, none⟩ = some (.int .i64 a7) ∧ w'.cell? ⟨w.heap.size, 8, none⟩ = some (.int .i64 a8)) (ds := []) #[false, false, false, false, false, false, false, false, false, false, false, false] (by kernel_rfl) rfl rfl ⟨(blk_cell BK.out 0).trans rfl, (blk_cell BK.out 1).trans rfl, (blk_cell BK.out 2).trans rfl, (blk_cell BK.out 3).trans rfl, (blk_cell BK.out 4).trans rfl, (blk_cell BK.out 5).trans rfl, (blk_cell BK.out 6).trans rfl, (blk_cell BK.out 7).trans rfl, (blk_cell BK.out 8).trans rfl⟩ (fun hHeld => ?_); refine with_tabW pb.tab8 pb.bits8 (fun HT_ HW_ => ?_)
  generalize w8.drew = w9 at BK HB hHeld ⊢
  refine pure_ (i := 1) (N := some 53) (v := ?_) (a' := ?_) #[false, true, false, false, false, false, false, false, false, false, false, false] rfl rfl (any_of HT_.out (by kernel_rfl)) (fun _ _ _ h => h) (Or.inl ⟨by rfl, ?_⟩) ?_ ?_
  rotate_left
  · intro w'
    go_simp
    with_reducible rfl
  rotate_left
  · simp only [Act.put, List.setIfInBounds_toArray, List.set_cons_zero, List.set_cons_succ, i64_w, i32_w]
    rfl
  refine pure_ (i := 2) (N := some 54) (v := ?_) (a' := ?_) #[false, true, true, false, false, false, false, false, false, false, false, false] rfl rfl (any_of HT_.out (by kernel_rfl)) (fun _ _ _ h => h) (Or.inl ⟨by rfl, ?_⟩) ?_ ?_
  rotate_left
  · intro w'
    go_simp
    with_reducible rfl
  rotate_left
  · simp only [Act.put, List.setIfInBounds_toArray, List.set_cons_zero, List.set_cons_succ, i64_w, i32_w]
    rfl
  refine pure_ (i := 6) (N := some 58) (v := ?_) (a' := ?_) #[false, true, true, false, false, false, true, false, false, false, false, false] rfl rfl (any_of HT_.out (by kernel_rfl)) (fun _ _ _ h => h) (Or.inl ⟨by rfl, ?_⟩) ?_ ?_
  rotate_left
  · intro w'
    go_simp
    with_reducible rfl
  rotate_left
  · simp only [Act.put, List.setIfInBounds_toArray, List.set_cons_zero, List.set_cons_succ, i64_w, i32_w]
    rfl
  refine pure_ (i := 7) (N := some 59) (v := ?_) (a' := ?_) #[false, true, true, false, false, false, true, true, false, false, false, false] rfl rfl (any_of HT_.out (by kernel_rfl)) (fun _ _ _ h => h) (Or.inl ⟨by rfl, ?_⟩) ?_ ?_
  rotate_left
  · intro w'
    go_simp
    with_reducible rfl
  rotate_left
  · simp only [Act.put, List.setIfInBounds_toArray, List.set_cons_zero, List.set_cons_succ, i64_w, i32_w]
    rfl
  refine pure_ (i := 3) (N := some 55) (v := ?_) (a' := ?_) #[false, true, true, true, false, false, true, true, false, false, false, false] rfl rfl (any_of HT_.out (by kernel_rfl)) (fun _ _ _ h => h) (Or.inl ⟨by rfl, ?_⟩) ?_ ?_
  rotate_left
  · intro w'
    go_simp
    with_reducible rfl
  rotate_left
  · simp only [Act.put, List.setIfInBounds_toArray, List.set_cons_zero, List.set_cons_succ, i64_w, i32_w]
    rfl
  refine pure_ (i := 8) (N := some 60) (v := ?_) (a' := ?_) #[false, true, true, true, false, false, true, true, true, false, false, false] rfl rfl (any_of HT_.out (by kernel_rfl)) (fun _ _ _ h => h) (Or.inl ⟨by rfl, ?_⟩) ?_ ?_
  rotate_left
  · intro w'
    go_simp
    with_reducible rfl
  rotate_left
  · simp only [Act.put, List.setIfInBounds_toArray, List.set_cons_zero, List.set_cons_succ, i64_w, i32_w]
    rfl
  refine take_ (i := 0) (N := some 52) (v := ?_) (a' := ?_) #[true, true, true, true, false, false, true, true, true, false, false, false] rfl rfl (take_ofW HT_.out HW_.out (by kernel_rfl)) (fun _ _ _ h => h) (Or.inl ⟨by rfl, ?_⟩) hHeld ?_ ?_
  rotate_left
  · rintro w' ⟨s0, s1, s2, s3, s4, s5, s6, s7, s8⟩
    go_simp
    with_reducible rfl
  rotate_left
  · simp only [Act.put, List.setIfInBounds_toArray, List.set_cons_zero, List.set_cons_succ, i64_w, i32_w]
    rfl
  refine take_ (i := 5) (N := some 57) (v := ?_) (a' := ?_) #[true, true, true, true, false, true, true, true, true, false, false, false] rfl rfl (take_ofW HT_.out HW_.out (by kernel_rfl)) (fun _ _ _ h => h) (Or.inl ⟨by rfl, ?_⟩) hHeld ?_ ?_
  rotate_left
  · rintro w' ⟨s0, s1, s2, s3, s4, s5, s6, s7, s8⟩
    go_simp
    with_reducible rfl
  rotate_left
  · simp only [Act.put, List.setIfInBounds_toArray, List.set_cons_zero, List.set_cons_succ, i64_w, i32_w]
    rfl
  refine one_ (i := 4) (N := some 56) #[true, true, true, true, true, true, true, true, true, false, false, false] rfl rfl (one_of HT_.out (by kernel_rfl)) (by decide) (fun K hK => ?_)
  refine goes_ Try.func21 (by kernel_rfl) rfl #[.agg #[.int .i64 a0, .int .i64 a1, .int .i64 a2, .int .i64 a3, .int .i64 a4, .int .i64 a5, .int .i64 a6, .int .i64 a7, .int .i64 a8], .int .i64 (mn xa xb)] (by rfl) rfl rfl (by (try simp only [List.map_toArray, List.map_cons, List.map_nil]); first | done | rfl) ?_
  with_reducible refine (policy_Delay.calls a0 a1 a2 a3 a4 a5 a6 a7 a8 (mn xa xb) m _ Hm.out).mono ?_
  rintro e w10 ⟨rfl, hb⟩
  refine ⟨_, rfl, ?_⟩
  have n0_ := Aside0.mk (blk_below BK.out hb)
  have n1_ := Aside0.mk (below_step HB.out hb)
  clear BK HB hb
  have BK := n0_
  have HB := n1_
  clear n0_ n1_
  refine hK.out _ _ ⟨(blk_cell BK.out 0).trans rfl, (blk_cell BK.out 1).trans rfl, (blk_cell BK.out 2).trans rfl, (blk_cell BK.out 3).trans rfl, (blk_cell BK.out 4).trans rfl, (blk_cell BK.out 5).trans rfl, (blk_cell BK.out 6).trans rfl, (blk_cell BK.out 7).trans rfl, (blk_cell BK.out 8).trans rfl⟩ (fun hHeld => ?_)
  clear hK K
  refine norm_ (a' := ?_) ?_ ?_
  rotate_left
  · show Act.put _ (some 56) _ = _
    simp only [Act.put, List.setIfInBounds_toArray, List.set_cons_zero, List.set_cons_succ, i64_w, i32_w]
    rfl
  refine one_ (i := 9) (N := some 61) #[true, true, true, true, true, true, true, true, true, true, false, false] rfl rfl (one_of HT_.out (by kernel_rfl)) (by decide) (fun K hK => ?_)
  refine goes_ Try.func21 (by kernel_rfl) rfl #[.agg #[.int .i64 a0, .int .i64 a1, .int .i64 a2, .int .i64 a3, .int .i64 a4, .int .i64 a5, .int .i64 a6, .int .i64 a7, .int .i64 a8], .int .i64 (mx xa xb)] (by rfl) rfl rfl (by (try simp only [List.map_toArray, List.map_cons, List.map_nil]); first | done | rfl) ?_
  with_reducible refine (policy_Delay.calls a0 a1 a2 a3 a4 a5 a6 a7 a8 (mx xa xb) n _ Hn.out).mono ?_
  rintro e w11 ⟨rfl, hb⟩
  refine ⟨_, rfl, ?_⟩
  have n0_ := Aside0.mk (blk_below BK.out hb)
  have n1_ := Aside0.mk (below_step HB.out hb)
  clear BK HB hb
  have BK := n0_
  have HB := n1_
  clear n0_ n1_
  refine hK.out _ _ ⟨(blk_cell BK.out 0).trans rfl, (blk_cell BK.out 1).trans rfl, (blk_cell BK.out 2).trans rfl, (blk_cell BK.out 3).trans rfl, (blk_cell BK.out 4).trans rfl, (blk_cell BK.out 5).trans rfl, (blk_cell BK.out 6).trans rfl, (blk_cell BK.out 7).trans rfl, (blk_cell BK.out 8).trans rfl⟩ (fun hHeld => ?_)
  clear hK K
  refine norm_ (a' := ?_) ?_ ?_
  rotate_left
  · show Act.put _ (some 61) _ = _
    simp only [Act.put, List.setIfInBounds_toArray, List.set_cons_zero, List.set_cons_succ, i64_w, i32_w]
    rfl
  refine pure_ (i := 10) (N := some 12) (v := ?_) (a' := ?_) #[true, true, true, true, true, true, true, true, true, true, true, false] rfl rfl (any_of HT_.out (by kernel_rfl)) (fun _ _ _ h => h) (Or.inl ⟨by rfl, ?_⟩) ?_ ?_
  rotate_left
  · intro w'
    go_simp
    with_reducible rfl
  rotate_left
  · simp only [Act.put, List.setIfInBounds_toArray, List.set_cons_zero, List.set_cons_succ, i64_w, i32_w]
    rfl
  refine pure_ (i := 11) (N := some 13) (v := ?_) (a' := ?_) #[true, true, true, true, true, true, true, true, true, true, true, true] rfl rfl (any_of HT_.out (by kernel_rfl)) (fun _ _ _ h => h) (Or.inl ⟨by rfl, ?_⟩) ?_ ?_
  rotate_left
  · intro w'
    go_simp
    with_reducible rfl
  rotate_left
  · simp only [Act.put, List.setIfInBounds_toArray, List.set_cons_zero, List.set_cons_succ, i64_w, i32_w]
    rfl
  refine done_ (done_of HT_.out (by kernel_rfl)) ?_
  have hz6 : w11.cell? ⟨w.heap.size, 6, none⟩ = some (.int .i64 a6) := (blk_cell BK.out 6).trans rfl
  have hy6 := blk_frozen BK.out 6
  have t1 : decide (1 ≤ m) = true := decide_eq_true h1
  have t2 : decide (m ≤ n) = true := decide_eq_true h2
  have t3 : decide (n ≤ a6) = true := decide_eq_true h3
  go_wp2_with (go_at_call 16; (with_reducible refine (ossuarylaw18_alive.calls true _ HAL.out).mono ?_); rintro e w12 ⟨rfl, hb⟩; have HB12 := Aside0.mk (HB.out.trans (hb.mono HB.out.size)); clear hb)
  all_goals (first | (exfalso; omega) | (go_ret; exact ⟨rfl, HB12.out⟩))
end Go.Proofs.Ytjegkfdcelodeaa.P
