import Derived.Test.YtjegkfdcelodeaaAs4
namespace Go.Proofs.Ytjegkfdcelodeaa.P
open Go.RowKit Go.Proofs.YtjegkfdcelodeaaW.PrintWords Go.Proofs.YtjegkfdcelodeaaW.PrintLast Go.Proofs.YtjegkfdcelodeaaW.PrintMore
attribute [local go_sem] max2_int min2_int max_two min_two max_three min_three max_four min_four
set_option linter.unusedVariables false
set_option linter.unusedSimpArgs false
namespace As
open Wr
set_option maxHeartbeats 8000000 in
set_option maxRecDepth 100000 in
theorem qA_chk : chkQ ⟨3, 5, fun i => i == 0, fun _ => false, fun _ => { data := #[] }⟩ 1 = 0 := by
  refine chk0 (by omega) (by simp) (fun i hi => ?_)
  have e2 : ({ data := #[] } : ByteArray).size = 0 := rfl
  have e : ({ data := #[] } : ByteArray).toList = [] := by
    unfold ByteArray.toList; unfold ByteArray.toList.loop
    rw [if_neg (by rw [e2]; omega)]; rfl
  rcases lt4 hi with rfl | rfl | rfl | rfl <;> simp [badQ, e, e2]
set_option maxHeartbeats 8000000 in
set_option maxRecDepth 100000 in
theorem qA_enc : encB ⟨3, 5, fun i => i == 0, fun _ => false, fun _ => { data := #[] }⟩ 1 = [3, 5, 1, 0] := by
  simp [encB, dimsB, dimB, numB_small]
set_option maxHeartbeats 8000000 in
set_option maxRecDepth 100000 in
theorem alive13.calls (w : World) :
    Calls Try.prog 39 #[] w fun e w' => e = .returned (.bool true) ∧ Below w.heap.size w w' := by
  have hE := Encode_ok.calls ⟨3, 5, fun i => i == 0, fun _ => false, fun _ => { data := #[] }⟩ 1 w qA_chk
  rw [show ((1 : Nat) : Int) = 1 from rfl, qA_enc] at hE
  have HE := Aside0.mk (show Calls Try.prog 55 #[.agg #[.int .i64 3, .int .i64 5, .bool true, .bool false, .bool false, .bool false, .bool false, .bool false, .bool false, .bool false, .string { data := #[] }, .string { data := #[] }, .string { data := #[] }, .string { data := #[] }], .int .i64 1] w _ from hE)
  clear hE
  go_enter Try.func39, Try.ntmps39
  go_wp2_with fail
  refine HE.out.mono ?_
  rintro e w1 ⟨v, rfl, hr, hb⟩
  have HB := Aside0.mk hb
  obtain ⟨b, cap, rfl, -, -, -⟩ := Kd.R_form hr (by decide)
  obtain ⟨-, hcap, hC⟩ := Kd.R_reads' hr
  have k0 : w1.cell? ⟨b, 0, none⟩ = some (.int .u8 3) := by obtain ⟨ad, e, h⟩ := Kd.at_int hC 0 (by omega) (by decide); injection e with e; subst e; exact h
  have k1 : w1.cell? ⟨b, 1, none⟩ = some (.int .u8 5) := by obtain ⟨ad, e, h⟩ := Kd.at_int hC 1 (by omega) (by decide); injection e with e; subst e; exact h
  have k2 : w1.cell? ⟨b, 2, none⟩ = some (.int .u8 1) := by obtain ⟨ad, e, h⟩ := Kd.at_int hC 2 (by omega) (by decide); injection e with e; subst e; exact h
  have k3 : w1.cell? ⟨b, 3, none⟩ = some (.int .u8 0) := by obtain ⟨ad, e, h⟩ := Kd.at_int hC 3 (by omega) (by decide); injection e with e; subst e; exact h
  have hl4 : ([3, 5, 1, 0] : List Int).length = 4 := rfl
  rw [hl4] at hcap ⊢
  clear hr hC hb HE
  go_wp2
  go_ret
  exact ⟨rfl, HB.out⟩
def amat.T3 : Bool × List (List Nat × List Nat) := (true, [([], []), ([], []), ([0, 1], [0, 1]), ([], []), ([], []), ([3, 4, 2], [3, 4]), ([2, 5], [2, 5]), ([6, 5], [6]), ([7], [7]), ([7], [7]), ([8, 9, 7, 7], [7, 8, 9]), ([7], [7]), ([7], [7]), ([11, 12, 10, 7], [7, 11, 12]), ([10, 13, 7], [7, 10, 13]), ([7, 14], [7, 14]), ([15, 13], [15]), ([16, 16], [16]), ([16, 17], [16, 17]), ([18, 17, 0, 1, 2, 3, 4, 5, 6, 7, 8, 9, 10, 11, 12, 13, 14, 15, 16, 17, 18], [18])])
def amat.B3 : List Nat := [0, 0, 3, 0, 0, 31, 63, 127, 255, 255, 1023, 255, 255, 8191, 16383, 32767, 65535, 131071, 262143, 524287]
theorem amat.tab3 : rtab .any (opsOf Try.f8 3) = amat.T3 := by kernel_rfl
theorem amat.bits3 : waitsOk amat.T3.2 amat.B3 = true := by kernel_rfl
set_option maxHeartbeats 8000000 in
set_option maxRecDepth 100000 in
theorem eqK (d : Nat) (W : World) (a : Ky) : (Op.equalIn (d + 3) 60 (.agg #[.int .i64 a.h, .string (a.D 0), .string (a.D 1), .string (a.D 2), .string (a.D 3)]) (.agg #[.int .i64 a.h, .string (a.D 0), .string (a.D 1), .string (a.D 2), .string (a.D 3)])).run Try.prog W = .ok true W := by
  have h := eq56 d W (a.D 0) (a.D 1) (a.D 2) (a.D 3) (a.D 0) (a.D 1) (a.D 2) (a.D 3)
  simp only [eqS_refl, Bool.and_self] at h
  have c56 : Try.prog.cellsOf 56 = 4 := by kernel_rfl
  go_simp
set_option maxHeartbeats 8000000 in
set_option maxRecDepth 100000 in
theorem AskMatches_heavy.calls (q : Qy) (k : Ky) (w : World) (hl : light q = false) :
    Calls Try.prog 8 #[.agg q.cells, .agg k.cells] w fun e w' => e = .returned (.bool true) ∧ Below w.heap.size w w' := by
  have HQ := Aside0.mk ((QB.new q w).below ((Below.refl _ _).alloc (Nat.le_refl _) (.cells k.cells 60 (0, 0))))
  have HB := Aside0.mk (show Below w.heap.size w ((w.alloc (.cells q.cells 58 (0, 0))).alloc (.cells k.cells 60 (0, 0))) from ((Below.refl _ w).alloc (Nat.le_refl _) _).alloc (by simp) _)
  have HK := Aside0.mk (KB.mk (show ((w.alloc (.cells q.cells 58 (0, 0))).alloc (.cells k.cells 60 (0, 0))).heap[w.heap.size + 1]? = some (.cells k.cells 60 (0, 0)) by simpa using blk_new (w.alloc (.cells q.cells 58 (0, 0))) (.cells k.cells 60 (0, 0))))
  have hLi := Light.calls q
  have hCk := RCheck.calls q 4
  unfold Qy.cells at HQ HB HK hLi hCk ⊢
  unfold Ky.cells at HQ HB HK ⊢
  have HLi := Aside0.mk hLi
  have HCk := Aside0.mk hCk
  clear hLi hCk
  go_enter Try.func8, Try.ntmps8
  go_wp2_with fail
  refine (HLi.out _).mono ?_
  rw [hl]
  rintro e w2 ⟨rfl, hb⟩
  have HB2 := Aside0.mk (below_step HB.out hb)
  have HQ2 := Aside0.mk (HQ.out.below hb)
  have HK2 := Aside0.mk (HK.out.below hb)
  clear hb HB HQ HK HLi
  have HB := HB2
  have HQ := HQ2
  have HK := HK2
  clear HB2 HQ2 HK2
  go_wp2_with fail
  refine (alive13.calls _).mono ?_
  rintro e wa ⟨rfl, hb⟩
  have HBa := Aside0.mk (below_step HB.out hb)
  clear hb HB
  go_wp2
  go_ret
  exact ⟨rfl, HBa.out⟩
set_option maxHeartbeats 8000000 in
set_option maxRecDepth 100000 in
theorem AskMatches_wrong.calls (q : Qy) (k : Ky) (w : World) (hl : light q = true) (c : Int) (hc : chkQ q 4 = c) (hn : c ≠ 0) :
    Calls Try.prog 8 #[.agg q.cells, .agg k.cells] w fun e w' => e = .returned (.bool true) ∧ Below w.heap.size w w' := by
  have hne : (c != 0) = true := by simp [hn]
  have HQ := Aside0.mk ((QB.new q w).below ((Below.refl _ _).alloc (Nat.le_refl _) (.cells k.cells 60 (0, 0))))
  have HB := Aside0.mk (show Below w.heap.size w ((w.alloc (.cells q.cells 58 (0, 0))).alloc (.cells k.cells 60 (0, 0))) from ((Below.refl _ w).alloc (Nat.le_refl _) _).alloc (by simp) _)
  have HK := Aside0.mk (KB.mk (show ((w.alloc (.cells q.cells 58 (0, 0))).alloc (.cells k.cells 60 (0, 0))).heap[w.heap.size + 1]? = some (.cells k.cells 60 (0, 0)) by simpa using blk_new (w.alloc (.cells q.cells 58 (0, 0))) (.cells k.cells 60 (0, 0))))
  have hLi := Light.calls q
  have hCk := RCheck.calls q 4
  unfold Qy.cells at HQ HB HK hLi hCk ⊢
  unfold Ky.cells at HQ HB HK ⊢
  have HLi := Aside0.mk hLi
  have HCk := Aside0.mk hCk
  clear hLi hCk
  go_enter Try.func8, Try.ntmps8
  go_wp2_with fail
  refine (HLi.out _).mono ?_
  rw [hl]
  rintro e w2 ⟨rfl, hb⟩
  have HB2 := Aside0.mk (below_step HB.out hb)
  have HQ2 := Aside0.mk (HQ.out.below hb)
  have HK2 := Aside0.mk (HK.out.below hb)
  clear hb HB HQ HK HLi
  have HB := HB2
  have HQ := HQ2
  have HK := HK2
  clear HB2 HQ2 HK2
  have x0 := blk_cell HQ.out.blk 0
  have x1 := blk_cell HQ.out.blk 1
  have x2 := blk_cell HQ.out.blk 2
  have x3 := blk_cell HQ.out.blk 3
  have x4 := blk_cell HQ.out.blk 4
  have x5 := blk_cell HQ.out.blk 5
  have x6 := blk_cell HQ.out.blk 6
  have x7 := blk_cell HQ.out.blk 7
  have x8 := blk_cell HQ.out.blk 8
  have x9 := blk_cell HQ.out.blk 9
  have x10 := blk_cell HQ.out.blk 10
  have x11 := blk_cell HQ.out.blk 11
  have x12 := blk_cell HQ.out.blk 12
  have x13 := blk_cell HQ.out.blk 13
  simp only [Qy.cells, List.getElem?_toArray, List.getElem?_cons_zero, List.getElem?_cons_succ] at x0 x1 x2 x3 x4 x5 x6 x7 x8 x9 x10 x11 x12 x13
  go_wp2_with fail
  refine (HCk.out c _ hc).mono ?_
  rintro e w3 ⟨rfl, hb⟩
  have HB2 := Aside0.mk (below_step HB.out hb)
  have HQ2 := Aside0.mk (HQ.out.below hb)
  have HK2 := Aside0.mk (HK.out.below hb)
  clear hc hn hb HB HQ HK HCk x0 x1 x2 x3 x4 x5 x6 x7 x8 x9 x10 x11 x12 x13
  have HB := HB2
  have HQ := HQ2
  have HK := HK2
  clear HB2 HQ2 HK2
  go_wp2_with fail
  refine (alive13.calls _).mono ?_
  rintro e wa ⟨rfl, hb⟩
  have HBa := Aside0.mk (below_step HB.out hb)
  clear hb HB
  go_wp2
  go_ret
  exact ⟨rfl, HBa.out⟩
set_option maxHeartbeats 8000000 in
set_option maxRecDepth 100000 in
theorem AskMatches_ok.calls (q : Qy) (k : Ky) (w : World) (hl : light q = true) (hc0 : chkQ q 4 = 0) :
    Calls Try.prog 8 #[.agg q.cells, .agg k.cells] w fun e w' => e = .returned (.bool true) ∧ Below w.heap.size w w' := by
  have HQ := Aside0.mk ((QB.new q w).below ((Below.refl _ _).alloc (Nat.le_refl _) (.cells k.cells 60 (0, 0))))
  have HB := Aside0.mk (show Below w.heap.size w ((w.alloc (.cells q.cells 58 (0, 0))).alloc (.cells k.cells 60 (0, 0))) from ((Below.refl _ w).alloc (Nat.le_refl _) _).alloc (by simp) _)
  have HK := Aside0.mk (KB.mk (show ((w.alloc (.cells q.cells 58 (0, 0))).alloc (.cells k.cells 60 (0, 0))).heap[w.heap.size + 1]? = some (.cells k.cells 60 (0, 0)) by simpa using blk_new (w.alloc (.cells q.cells 58 (0, 0))) (.cells k.cells 60 (0, 0))))
  have hLi := Light.calls q
  have hCk := RCheck.calls q 4
  unfold Qy.cells at HQ HB HK hLi hCk ⊢
  unfold Ky.cells at HQ HB HK ⊢
  have HLi := Aside0.mk hLi
  have HCk := Aside0.mk hCk
  clear hLi hCk
  go_enter Try.func8, Try.ntmps8
  go_wp2_with fail
  refine (HLi.out _).mono ?_
  rw [hl]
  rintro e w2 ⟨rfl, hb⟩
  have HB2 := Aside0.mk (below_step HB.out hb)
  have HQ2 := Aside0.mk (HQ.out.below hb)
  have HK2 := Aside0.mk (HK.out.below hb)
  clear hb HB HQ HK HLi
  have HB := HB2
  have HQ := HQ2
  have HK := HK2
  clear HB2 HQ2 HK2
  have x0 := blk_cell HQ.out.blk 0
  have x1 := blk_cell HQ.out.blk 1
  have x2 := blk_cell HQ.out.blk 2
  have x3 := blk_cell HQ.out.blk 3
  have x4 := blk_cell HQ.out.blk 4
  have x5 := blk_cell HQ.out.blk 5
  have x6 := blk_cell HQ.out.blk 6
  have x7 := blk_cell HQ.out.blk 7
  have x8 := blk_cell HQ.out.blk 8
  have x9 := blk_cell HQ.out.blk 9
  have x10 := blk_cell HQ.out.blk 10
  have x11 := blk_cell HQ.out.blk 11
  have x12 := blk_cell HQ.out.blk 12
  have x13 := blk_cell HQ.out.blk 13
  simp only [Qy.cells, List.getElem?_toArray, List.getElem?_cons_zero, List.getElem?_cons_succ] at x0 x1 x2 x3 x4 x5 x6 x7 x8 x9 x10 x11 x12 x13
  go_wp2_with fail
  refine (HCk.out 0 _ hc0).mono ?_
  rintro e w3 ⟨rfl, hb⟩
  have HB2 := Aside0.mk (below_step HB.out hb)
  have HQ2 := Aside0.mk (HQ.out.below hb)
  have HK2 := Aside0.mk (HK.out.below hb)
  clear hb HB HQ HK HCk x0 x1 x2 x3 x4 x5 x6 x7 x8 x9 x10 x11 x12 x13
  have HB := HB2
  have HQ := HQ2
  have HK := HK2
  clear HB2 HQ2 HK2
  clear hl hc0
  obtain ⟨r, hr⟩ : ∃ r, matV q k = r := ⟨_, rfl⟩
  have hrr : (r == r) = true := by simp
  have hek : ∀ W : World, (Op.equalIn 10000 60 (.agg (grpV q k).cells) (.agg (grpV q k).cells)).run Try.prog W = .ok true W := fun W => eqK 9997 W (grpV q k)
  go_wp2_with fail
  have HQ2 := Aside0.mk (HQ.out.below (below_drew1 (Below.refl _ _)))
  have HK2 := Aside0.mk (HK.out.below (below_drew1 (Below.refl _ _)))
  have HB2 := Aside0.mk (below_drew1 HB.out)
  clear HQ HK HB
  have HQ := HQ2
  have HK := HK2
  have HB := HB2
  clear HQ2 HK2 HB2
  refine start_ (n := 20) (S := fun w' => w'.cell? ⟨w.heap.size, 0, none⟩ = some (.int .i64 q.a) ∧ w'.cell? ⟨w.heap.size, 1, none⟩ = some (.int .i64 q.b) ∧ w'.cell? ⟨w.heap.size, 2, none⟩ = some (.bool (q.G 0)) ∧ w'.cell? ⟨w.heap.size, 3, none⟩ = some (.bool (q.G 1)) ∧ w'.cell? ⟨w.heap.size, 4, none⟩ = some (.bool (q.G 2)) ∧ w'.cell? ⟨w.heap.size, 5, none⟩ = some (.bool (q.G 3)) ∧ w'.cell? ⟨w.heap.size, 6, none⟩ = some (.bool (q.H 0)) ∧ w'.cell? ⟨w.heap.size, 7, none⟩ = some (.bool (q.H 1)) ∧ w'.cell? ⟨w.heap.size, 8, none⟩ = some (.bool (q.H 2)) ∧ w'.cell? ⟨w.heap.size, 9, none⟩ = some (.bool (q.H 3)) ∧ w'.cell? ⟨w.heap.size, 10, none⟩ = some (.string (q.T 0)) ∧ w'.cell? ⟨w.heap.size, 11, none⟩ = some (.string (q.T 1)) ∧ w'.cell? ⟨w.heap.size, 12, none⟩ = some (.string (q.T 2)) ∧ w'.cell? ⟨w.heap.size, 13, none⟩ = some (.string (q.T 3)) ∧ w'.cell? ⟨w.heap.size + 1, 0, none⟩ = some (.int .i64 k.h) ∧ w'.cell? ⟨w.heap.size + 1, 1, none⟩ = some (.string (k.D 0)) ∧ w'.cell? ⟨w.heap.size + 1, 2, none⟩ = some (.string (k.D 1)) ∧ w'.cell? ⟨w.heap.size + 1, 3, none⟩ = some (.string (k.D 2)) ∧ w'.cell? ⟨w.heap.size + 1, 4, none⟩ = some (.string (k.D 3))) (ds := []) #[false, false, false, false, false, false, false, false, false, false, false, false, false, false, false, false, false, false, false, false] (by kernel_rfl) rfl rfl ⟨blk_cell HQ.out.blk 0, blk_cell HQ.out.blk 1, blk_cell HQ.out.blk 2, blk_cell HQ.out.blk 3, blk_cell HQ.out.blk 4, blk_cell HQ.out.blk 5, blk_cell HQ.out.blk 6, blk_cell HQ.out.blk 7, blk_cell HQ.out.blk 8, blk_cell HQ.out.blk 9, blk_cell HQ.out.blk 10, blk_cell HQ.out.blk 11, blk_cell HQ.out.blk 12, blk_cell HQ.out.blk 13, blk_cell HK.out.blk 0, blk_cell HK.out.blk 1, blk_cell HK.out.blk 2, blk_cell HK.out.blk 3, blk_cell HK.out.blk 4⟩ (fun hHeld => ?_)
  refine with_tabW amat.tab3 amat.bits3 (fun HT_ HW_ => ?_)
  generalize hW : (World.drew _) = W at HQ HK HB hHeld ⊢
  clear hW
  refine take_ (i := 0) (N := some 14) (v := ?_) (a' := ?_) #[true, false, false, false, false, false, false, false, false, false, false, false, false, false, false, false, false, false, false, false] rfl rfl (take_ofW HT_.out HW_.out (by kernel_rfl)) (fun _ _ _ h => h) (Or.inl ⟨by rfl, ?_⟩) hHeld ?_ ?_
  rotate_left
  · rintro w' ⟨s0, s1, s2, s3, s4, s5, s6, s7, s8, s9, s10, s11, s12, s13, s14, s15, s16, s17, s18⟩
    go_simp
    with_reducible rfl
  rotate_left
  · simp only [Act.put, List.setIfInBounds_toArray, List.set_cons_zero, List.set_cons_succ, i64_w, i32_w]
    rfl
  refine take_ (i := 1) (N := some 15) (v := ?_) (a' := ?_) #[true, true, false, false, false, false, false, false, false, false, false, false, false, false, false, false, false, false, false, false] rfl rfl (take_ofW HT_.out HW_.out (by kernel_rfl)) (fun _ _ _ h => h) (Or.inl ⟨by rfl, ?_⟩) hHeld ?_ ?_
  rotate_left
  · rintro w' ⟨s0, s1, s2, s3, s4, s5, s6, s7, s8, s9, s10, s11, s12, s13, s14, s15, s16, s17, s18⟩
    go_simp
    with_reducible rfl
  rotate_left
  · simp only [Act.put, List.setIfInBounds_toArray, List.set_cons_zero, List.set_cons_succ, i64_w, i32_w]
    rfl
  refine take_ (i := 3) (N := some 17) (v := ?_) (a' := ?_) #[true, true, false, true, false, false, false, false, false, false, false, false, false, false, false, false, false, false, false, false] rfl rfl (take_ofW HT_.out HW_.out (by kernel_rfl)) (fun _ _ _ h => h) (Or.inl ⟨by rfl, ?_⟩) hHeld ?_ ?_
  rotate_left
  · rintro w' ⟨s0, s1, s2, s3, s4, s5, s6, s7, s8, s9, s10, s11, s12, s13, s14, s15, s16, s17, s18⟩
    go_simp
    with_reducible rfl
  rotate_left
  · simp only [Act.put, List.setIfInBounds_toArray, List.set_cons_zero, List.set_cons_succ, i64_w, i32_w]
    rfl
  refine take_ (i := 4) (N := some 18) (v := ?_) (a' := ?_) #[true, true, false, true, true, false, false, false, false, false, false, false, false, false, false, false, false, false, false, false] rfl rfl (take_ofW HT_.out HW_.out (by kernel_rfl)) (fun _ _ _ h => h) (Or.inl ⟨by rfl, ?_⟩) hHeld ?_ ?_
  rotate_left
  · rintro w' ⟨s0, s1, s2, s3, s4, s5, s6, s7, s8, s9, s10, s11, s12, s13, s14, s15, s16, s17, s18⟩
    go_simp
    with_reducible rfl
  rotate_left
  · simp only [Act.put, List.setIfInBounds_toArray, List.set_cons_zero, List.set_cons_succ, i64_w, i32_w]
    rfl
  refine one_ (i := 2) (N := some 16) #[true, true, true, true, true, false, false, false, false, false, false, false, false, false, false, false, false, false, false, false] rfl rfl (one_of HT_.out (by kernel_rfl)) (by decide) (fun K hK => ?_)
  refine goes_ Try.func40 (by kernel_rfl) rfl #[.agg #[.int .i64 q.a, .int .i64 q.b, .bool (q.G 0), .bool (q.G 1), .bool (q.G 2), .bool (q.G 3), .bool (q.H 0), .bool (q.H 1), .bool (q.H 2), .bool (q.H 3), .string (q.T 0), .string (q.T 1), .string (q.T 2), .string (q.T 3)], .agg #[.int .i64 k.h, .string (k.D 0), .string (k.D 1), .string (k.D 2), .string (k.D 3)]] (by rfl) rfl rfl (by (try simp only [List.map_toArray, List.map_cons, List.map_nil]); first | done | rfl) ?_
  refine (Matches.calls q k r _ hr).mono ?_
  rintro e w3 ⟨rfl, hb⟩
  refine ⟨_, rfl, ?_⟩
  have HQ3 := Aside0.mk (HQ.out.below hb)
  have HK3 := Aside0.mk (HK.out.below hb)
  have HB3 := Aside0.mk (below_step HB.out hb)
  clear hb HQ HK HB
  refine hK.out _ _ ⟨(blk_cell HQ3.out.blk 0), (blk_cell HQ3.out.blk 1), (blk_cell HQ3.out.blk 2), (blk_cell HQ3.out.blk 3), (blk_cell HQ3.out.blk 4), (blk_cell HQ3.out.blk 5), (blk_cell HQ3.out.blk 6), (blk_cell HQ3.out.blk 7), (blk_cell HQ3.out.blk 8), (blk_cell HQ3.out.blk 9), (blk_cell HQ3.out.blk 10), (blk_cell HQ3.out.blk 11), (blk_cell HQ3.out.blk 12), (blk_cell HQ3.out.blk 13), (blk_cell HK3.out.blk 0), (blk_cell HK3.out.blk 1), (blk_cell HK3.out.blk 2), (blk_cell HK3.out.blk 3), (blk_cell HK3.out.blk 4)⟩ (fun hHeld => ?_)
  clear hK K
  refine norm_ (a' := ?_) ?_ ?_
  rotate_left
  · show Act.put _ (some 16) _ = _
    simp only [Act.put, List.setIfInBounds_toArray, List.set_cons_zero, List.set_cons_succ, i64_w, i32_w]
    rfl
  refine one_ (i := 5) (N := some 19) #[true, true, true, true, true, true, false, false, false, false, false, false, false, false, false, false, false, false, false, false] rfl rfl (one_of HT_.out (by kernel_rfl)) (by decide) (fun K hK => ?_)
  refine goes_ Try.func41 (by kernel_rfl) rfl #[.agg #[.int .i64 q.a, .int .i64 q.b, .bool (q.G 0), .bool (q.G 1), .bool (q.G 2), .bool (q.G 3), .bool (q.H 0), .bool (q.H 1), .bool (q.H 2), .bool (q.H 3), .string (q.T 0), .string (q.T 1), .string (q.T 2), .string (q.T 3)], .agg #[.int .i64 k.h, .string (k.D 0), .string (k.D 1), .string (k.D 2), .string (k.D 3)]] (by rfl) rfl rfl (by (try simp only [List.map_toArray, List.map_cons, List.map_nil]); first | done | rfl) ?_
  refine (RMatches.calls q k r _ hr).mono ?_
  rintro e w4 ⟨rfl, hb⟩
  refine ⟨_, rfl, ?_⟩
  have HQ4 := Aside0.mk (HQ3.out.below hb)
  have HK4 := Aside0.mk (HK3.out.below hb)
  have HB4 := Aside0.mk (below_step HB3.out hb)
  clear hb HQ3 HK3 HB3
  refine hK.out _ _ ⟨(blk_cell HQ4.out.blk 0), (blk_cell HQ4.out.blk 1), (blk_cell HQ4.out.blk 2), (blk_cell HQ4.out.blk 3), (blk_cell HQ4.out.blk 4), (blk_cell HQ4.out.blk 5), (blk_cell HQ4.out.blk 6), (blk_cell HQ4.out.blk 7), (blk_cell HQ4.out.blk 8), (blk_cell HQ4.out.blk 9), (blk_cell HQ4.out.blk 10), (blk_cell HQ4.out.blk 11), (blk_cell HQ4.out.blk 12), (blk_cell HQ4.out.blk 13), (blk_cell HK4.out.blk 0), (blk_cell HK4.out.blk 1), (blk_cell HK4.out.blk 2), (blk_cell HK4.out.blk 3), (blk_cell HK4.out.blk 4)⟩ (fun hHeld => ?_)
  clear hK K
  refine norm_ (a' := ?_) ?_ ?_
  rotate_left
  · show Act.put _ (some 19) _ = _
    simp only [Act.put, List.setIfInBounds_toArray, List.set_cons_zero, List.set_cons_succ, i64_w, i32_w]
    rfl
  refine pure_ (i := 6) (N := some 20) (v := ?_) (a' := ?_) #[true, true, true, true, true, true, true, false, false, false, false, false, false, false, false, false, false, false, false, false] rfl rfl (any_of HT_.out (by kernel_rfl)) (fun _ _ _ h => h) (Or.inl ⟨by rfl, ?_⟩) ?_ ?_
  rotate_left
  · intro w'
    go_simp
    with_reducible rfl
  rotate_left
  · simp only [Act.put, List.setIfInBounds_toArray, List.set_cons_zero, List.set_cons_succ, i64_w, i32_w]
    rfl
  refine pure_ (i := 7) (N := some 21) (v := ?_) (a' := ?_) #[true, true, true, true, true, true, true, true, false, false, false, false, false, false, false, false, false, false, false, false] rfl rfl (any_of HT_.out (by kernel_rfl)) (fun _ _ _ h => h) (Or.inl ⟨by rfl, ?_⟩) ?_ ?_
  rotate_left
  · intro w'
    go_simp
    with_reducible rfl
  rotate_left
  · simp only [Act.put, List.setIfInBounds_toArray, List.set_cons_zero, List.set_cons_succ, i64_w, i32_w]
    rfl
  refine take_ (i := 8) (N := some 22) (v := ?_) (a' := ?_) #[true, true, true, true, true, true, true, true, true, false, false, false, false, false, false, false, false, false, false, false] rfl rfl (take_ofW HT_.out HW_.out (by kernel_rfl)) (fun _ _ _ h => h) (Or.inl ⟨by rfl, ?_⟩) hHeld ?_ ?_
  rotate_left
  · rintro w' ⟨s0, s1, s2, s3, s4, s5, s6, s7, s8, s9, s10, s11, s12, s13, s14, s15, s16, s17, s18⟩
    go_simp
    with_reducible rfl
  rotate_left
  · simp only [Act.put, List.setIfInBounds_toArray, List.set_cons_zero, List.set_cons_succ, i64_w, i32_w]
    rfl
  refine take_ (i := 9) (N := some 23) (v := ?_) (a' := ?_) #[true, true, true, true, true, true, true, true, true, true, false, false, false, false, false, false, false, false, false, false] rfl rfl (take_ofW HT_.out HW_.out (by kernel_rfl)) (fun _ _ _ h => h) (Or.inl ⟨by rfl, ?_⟩) hHeld ?_ ?_
  rotate_left
  · rintro w' ⟨s0, s1, s2, s3, s4, s5, s6, s7, s8, s9, s10, s11, s12, s13, s14, s15, s16, s17, s18⟩
    go_simp
    with_reducible rfl
  rotate_left
  · simp only [Act.put, List.setIfInBounds_toArray, List.set_cons_zero, List.set_cons_succ, i64_w, i32_w]
    rfl
  refine take_ (i := 11) (N := some 25) (v := ?_) (a' := ?_) #[true, true, true, true, true, true, true, true, true, true, false, true, false, false, false, false, false, false, false, false] rfl rfl (take_ofW HT_.out HW_.out (by kernel_rfl)) (fun _ _ _ h => h) (Or.inl ⟨by rfl, ?_⟩) hHeld ?_ ?_
  rotate_left
  · rintro w' ⟨s0, s1, s2, s3, s4, s5, s6, s7, s8, s9, s10, s11, s12, s13, s14, s15, s16, s17, s18⟩
    go_simp
    with_reducible rfl
  rotate_left
  · simp only [Act.put, List.setIfInBounds_toArray, List.set_cons_zero, List.set_cons_succ, i64_w, i32_w]
    rfl
  refine take_ (i := 12) (N := some 26) (v := ?_) (a' := ?_) #[true, true, true, true, true, true, true, true, true, true, false, true, true, false, false, false, false, false, false, false] rfl rfl (take_ofW HT_.out HW_.out (by kernel_rfl)) (fun _ _ _ h => h) (Or.inl ⟨by rfl, ?_⟩) hHeld ?_ ?_
  rotate_left
  · rintro w' ⟨s0, s1, s2, s3, s4, s5, s6, s7, s8, s9, s10, s11, s12, s13, s14, s15, s16, s17, s18⟩
    go_simp
    with_reducible rfl
  rotate_left
  · simp only [Act.put, List.setIfInBounds_toArray, List.set_cons_zero, List.set_cons_succ, i64_w, i32_w]
    rfl
  refine one_ (i := 10) (N := some 24) #[true, true, true, true, true, true, true, true, true, true, true, true, true, false, false, false, false, false, false, false] rfl rfl (one_of HT_.out (by kernel_rfl)) (by decide) (fun K hK => ?_)
  refine goes_ Try.func42 (by kernel_rfl) rfl #[.agg #[.int .i64 q.a, .int .i64 q.b, .bool (q.G 0), .bool (q.G 1), .bool (q.G 2), .bool (q.G 3), .bool (q.H 0), .bool (q.H 1), .bool (q.H 2), .bool (q.H 3), .string (q.T 0), .string (q.T 1), .string (q.T 2), .string (q.T 3)], .agg #[.int .i64 k.h, .string (k.D 0), .string (k.D 1), .string (k.D 2), .string (k.D 3)]] (by rfl) rfl rfl (by (try simp only [List.map_toArray, List.map_cons, List.map_nil]); first | done | rfl) ?_
  refine (Group.calls q k _).mono ?_
  rintro e w5 ⟨rfl, hb⟩
  refine ⟨_, rfl, ?_⟩
  have HQ5 := Aside0.mk (HQ4.out.below hb)
  have HK5 := Aside0.mk (HK4.out.below hb)
  have HB5 := Aside0.mk (below_step HB4.out hb)
  clear hb HQ4 HK4 HB4
  refine hK.out _ _ ⟨(blk_cell HQ5.out.blk 0), (blk_cell HQ5.out.blk 1), (blk_cell HQ5.out.blk 2), (blk_cell HQ5.out.blk 3), (blk_cell HQ5.out.blk 4), (blk_cell HQ5.out.blk 5), (blk_cell HQ5.out.blk 6), (blk_cell HQ5.out.blk 7), (blk_cell HQ5.out.blk 8), (blk_cell HQ5.out.blk 9), (blk_cell HQ5.out.blk 10), (blk_cell HQ5.out.blk 11), (blk_cell HQ5.out.blk 12), (blk_cell HQ5.out.blk 13), (blk_cell HK5.out.blk 0), (blk_cell HK5.out.blk 1), (blk_cell HK5.out.blk 2), (blk_cell HK5.out.blk 3), (blk_cell HK5.out.blk 4)⟩ (fun hHeld => ?_)
  clear hK K
  refine norm_ (a' := ?_) ?_ ?_
  rotate_left
  · show Act.put _ (some 24) _ = _
    simp only [Act.put, List.setIfInBounds_toArray, List.set_cons_zero, List.set_cons_succ, i64_w, i32_w]
    rfl
  refine one_ (i := 13) (N := some 27) #[true, true, true, true, true, true, true, true, true, true, true, true, true, true, false, false, false, false, false, false] rfl rfl (one_of HT_.out (by kernel_rfl)) (by decide) (fun K hK => ?_)
  refine goes_ Try.func43 (by kernel_rfl) rfl #[.agg #[.int .i64 q.a, .int .i64 q.b, .bool (q.G 0), .bool (q.G 1), .bool (q.G 2), .bool (q.G 3), .bool (q.H 0), .bool (q.H 1), .bool (q.H 2), .bool (q.H 3), .string (q.T 0), .string (q.T 1), .string (q.T 2), .string (q.T 3)], .agg #[.int .i64 k.h, .string (k.D 0), .string (k.D 1), .string (k.D 2), .string (k.D 3)]] (by rfl) rfl rfl (by (try simp only [List.map_toArray, List.map_cons, List.map_nil]); first | done | rfl) ?_
  refine (RGroup.calls q k _).mono ?_
  rintro e w6 ⟨rfl, hb⟩
  refine ⟨_, rfl, ?_⟩
  have HQ6 := Aside0.mk (HQ5.out.below hb)
  have HK6 := Aside0.mk (HK5.out.below hb)
  have HB6 := Aside0.mk (below_step HB5.out hb)
  clear hb HQ5 HK5 HB5
  refine hK.out _ _ ⟨(blk_cell HQ6.out.blk 0), (blk_cell HQ6.out.blk 1), (blk_cell HQ6.out.blk 2), (blk_cell HQ6.out.blk 3), (blk_cell HQ6.out.blk 4), (blk_cell HQ6.out.blk 5), (blk_cell HQ6.out.blk 6), (blk_cell HQ6.out.blk 7), (blk_cell HQ6.out.blk 8), (blk_cell HQ6.out.blk 9), (blk_cell HQ6.out.blk 10), (blk_cell HQ6.out.blk 11), (blk_cell HQ6.out.blk 12), (blk_cell HQ6.out.blk 13), (blk_cell HK6.out.blk 0), (blk_cell HK6.out.blk 1), (blk_cell HK6.out.blk 2), (blk_cell HK6.out.blk 3), (blk_cell HK6.out.blk 4)⟩ (fun hHeld => ?_)
  clear hK K
  refine norm_ (a' := ?_) ?_ ?_
  rotate_left
  · show Act.put _ (some 27) _ = _
    simp only [Act.put, List.setIfInBounds_toArray, List.set_cons_zero, List.set_cons_succ, i64_w, i32_w]
    rfl
  refine pure_ (i := 14) (N := some 28) (v := ?_) (a' := ?_) #[true, true, true, true, true, true, true, true, true, true, true, true, true, true, true, false, false, false, false, false] rfl rfl (any_of HT_.out (by kernel_rfl)) (fun _ _ _ h => h) (Or.inl ⟨by rfl, ?_⟩) ?_ ?_
  rotate_left
  · intro w'
    go_simp
    with_reducible rfl
  rotate_left
  · simp only [Act.put, List.setIfInBounds_toArray, List.set_cons_zero, List.set_cons_succ, i64_w, i32_w]
    rfl
  refine pure_ (i := 15) (N := some 29) (v := ?_) (a' := ?_) #[true, true, true, true, true, true, true, true, true, true, true, true, true, true, true, true, false, false, false, false] rfl rfl (any_of HT_.out (by kernel_rfl)) (fun _ _ _ h => h) (Or.inl ⟨by rfl, ?_⟩) ?_ ?_
  rotate_left
  · intro w'
    go_simp
    with_reducible rfl
  rotate_left
  · simp only [Act.put, List.setIfInBounds_toArray, List.set_cons_zero, List.set_cons_succ, i64_w, i32_w]
    rfl
  refine pure_ (i := 16) (N := some 30) (v := ?_) (a' := ?_) #[true, true, true, true, true, true, true, true, true, true, true, true, true, true, true, true, true, false, false, false] rfl rfl (any_of HT_.out (by kernel_rfl)) (fun _ _ _ h => h) (Or.inl ⟨by rfl, ?_⟩) ?_ ?_
  rotate_left
  · intro w'
    go_simp
    with_reducible rfl
  rotate_left
  · simp only [Act.put, List.setIfInBounds_toArray, List.set_cons_zero, List.set_cons_succ, i64_w, i32_w]
    rfl
  refine one_ (i := 17) (N := some 31) #[true, true, true, true, true, true, true, true, true, true, true, true, true, true, true, true, true, true, false, false] rfl rfl (one_of HT_.out (by kernel_rfl)) (by decide) (fun K hK => ?_)
  refine goes_ Try.func39 (by kernel_rfl) rfl #[] (by rfl) rfl rfl (by (try simp only [List.map_toArray, List.map_cons, List.map_nil]); first | done | rfl) ?_
  refine (alive13.calls _).mono ?_
  rintro e w7 ⟨rfl, hb⟩
  refine ⟨_, rfl, ?_⟩
  have HQ7 := Aside0.mk (HQ6.out.below hb)
  have HK7 := Aside0.mk (HK6.out.below hb)
  have HB7 := Aside0.mk (below_step HB6.out hb)
  clear hb HQ6 HK6 HB6
  refine hK.out _ _ ⟨(blk_cell HQ7.out.blk 0), (blk_cell HQ7.out.blk 1), (blk_cell HQ7.out.blk 2), (blk_cell HQ7.out.blk 3), (blk_cell HQ7.out.blk 4), (blk_cell HQ7.out.blk 5), (blk_cell HQ7.out.blk 6), (blk_cell HQ7.out.blk 7), (blk_cell HQ7.out.blk 8), (blk_cell HQ7.out.blk 9), (blk_cell HQ7.out.blk 10), (blk_cell HQ7.out.blk 11), (blk_cell HQ7.out.blk 12), (blk_cell HQ7.out.blk 13), (blk_cell HK7.out.blk 0), (blk_cell HK7.out.blk 1), (blk_cell HK7.out.blk 2), (blk_cell HK7.out.blk 3), (blk_cell HK7.out.blk 4)⟩ (fun hHeld => ?_)
  clear hK K
  refine norm_ (a' := ?_) ?_ ?_
  rotate_left
  · show Act.put _ (some 31) _ = _
    simp only [Act.put, List.setIfInBounds_toArray, List.set_cons_zero, List.set_cons_succ, i64_w, i32_w]
    rfl
  refine pure_ (i := 18) (N := some 32) (v := ?_) (a' := ?_) #[true, true, true, true, true, true, true, true, true, true, true, true, true, true, true, true, true, true, true, false] rfl rfl (any_of HT_.out (by kernel_rfl)) (fun _ _ _ h => h) (Or.inl ⟨by rfl, ?_⟩) ?_ ?_
  rotate_left
  · intro w'
    go_simp
    with_reducible rfl
  rotate_left
  · simp only [Act.put, List.setIfInBounds_toArray, List.set_cons_zero, List.set_cons_succ, i64_w, i32_w]
    rfl
  refine pure_ (i := 19) (N := some 4) (v := ?_) (a' := ?_) #[true, true, true, true, true, true, true, true, true, true, true, true, true, true, true, true, true, true, true, true] rfl rfl (any_of HT_.out (by kernel_rfl)) (fun _ _ _ h => h) (Or.inl ⟨by rfl, ?_⟩) ?_ ?_
  rotate_left
  · intro w'
    go_simp
    with_reducible rfl
  rotate_left
  · simp only [Act.put, List.setIfInBounds_toArray, List.set_cons_zero, List.set_cons_succ, i64_w, i32_w]
    rfl
  refine done_ (done_of HT_.out (by kernel_rfl)) ?_

  go_wp2
  go_ret
  exact ⟨rfl, HB7.out⟩
end As
def ossuarylaw13_AskMatches.f (q : Qy) (k : Ky) : Option Bool := some true
open As in
theorem ossuarylaw13_AskMatches.calls (q : Qy) (k : Ky) (r : Bool) (w : World) (h : ossuarylaw13_AskMatches.f q k = some r) :
    Calls Try.prog 8 #[.agg q.cells, .agg k.cells] w fun e w' => e = .returned (.bool r) ∧ Below w.heap.size w w' := by
  obtain rfl := Option.some.inj h
  cases hl : light q with
  | false => exact AskMatches_heavy.calls q k w hl
  | true =>
    by_cases hc : chkQ q 4 = 0
    · exact AskMatches_ok.calls q k w hl hc
    · exact AskMatches_wrong.calls q k w hl _ rfl hc
end Go.Proofs.Ytjegkfdcelodeaa.P
