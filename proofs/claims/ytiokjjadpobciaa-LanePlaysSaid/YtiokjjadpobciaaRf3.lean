import Derived.Test.YtiokjjadpobciaaRf2
namespace Go.Proofs.Ytiokjjadpobciaa.P
open Go.RowKit Go.Conc Go.Proofs.YtiokjjadpobciaaW.PrintWords Go.Proofs.YtiokjjadpobciaaW.PrintLast Go.Proofs.YtiokjjadpobciaaW.PrintMore
attribute [local go_sem] max2_int min2_int max_two min_two max_three min_three max_four min_four
set_option linter.unusedVariables false
set_option linter.unusedSimpArgs false
namespace Ln
def rput.T3 : Bool × List (List Nat × List Nat) := (true, [([], []), ([0], [0]), ([1], [1]), ([2], [2]), ([], []), ([3, 4], [3, 4]), ([5], [5]), ([6], [6]), ([], []), ([8], [8]), ([9], [9]), ([10], [10]), ([7, 11], [7, 11])])
def rput.B3 : List Nat := [0, 1, 3, 7, 0, 31, 63, 127, 0, 256, 768, 1792, 4095]
theorem rput.tab3 : rtab .any (opsOf Try.f27 3) = rput.T3 := by kernel_rfl
theorem rput.bits3 : waitsOk rput.T3.2 rput.B3 = true := by kernel_rfl
def rput.T5 : Bool × List (List Nat × List Nat) := (true, [([], []), ([0], [0]), ([1], [1]), ([2], [2]), ([], []), ([], []), ([], []), ([6], [6]), ([7], [7]), ([8], [8]), ([], []), ([9, 10], [9, 10]), ([11], [11]), ([5, 12], [5, 12]), ([], []), ([14], [14]), ([13, 15, 13], [13, 15]), ([3, 4, 0, 1, 2, 3, 4, 5, 6, 7, 8, 9, 10, 11, 12, 13, 14, 15, 16], [3, 4]), ([17, 16, 16, 0, 1, 2, 3, 4, 5, 6, 7, 8, 9, 10, 11, 12, 13, 14, 15, 16], [16, 17])])
def rput.B5 : List Nat := [0, 1, 3, 7, 0, 0, 0, 64, 192, 448, 0, 1984, 4032, 8160, 0, 16384, 65504, 131071, 262143]
theorem rput.tab5 : rtab .any (opsOf Try.f27 5) = rput.T5 := by kernel_rfl
theorem rput.bits5 : waitsOk rput.T5.2 rput.B5 = true := by kernel_rfl
set_option maxHeartbeats 8000000 in
set_option maxRecDepth 100000 in
theorem RPut_full.calls (B h m room : Nat) (L : List (List Int)) (n : Nat) (x : Int) (q : List Int) (w0 w : World) (hB : Below B w0 w) (hBm : B ≤ m) (hR : RfP h m room L w) (hn : n < L.length) (hq : L.getD n [] = q) (hf : ¬ q.length < room) :
    Calls Try.prog 27 #[.pointer (some ⟨h, 0, none⟩), .int .i64 n, .int .i64 x] w fun e w' => e = .returned (.int .i64 7) ∧ RPost B h m room L w0 w w' := by
  have dg : decide ((q.length : Int) ≥ (room : Int)) = true := decide_eq_true (by omega)
  have dl : decide ((room : Int) ≤ (q.length : Int)) = true := decide_eq_true (by omega)
  have HP := Aside0.mk hR
  obtain ⟨vs, hS⟩ := hR
  obtain ⟨hc0, hc1⟩ := hS.cell
  have HS := Aside0.mk hS
  have HB := Aside0.mk hB
  clear hS hB
  have hl : lane L n = true := by simp [lane]; omega
  obtain ⟨v, hv, hcm, hrw⟩ := HS.out.at hn
  rw [hq] at hrw
  obtain ⟨A, c, rfl, hc, hC⟩ := hrw.C
  have HV := Aside0.mk hC
  have b1 : (0 : Int) ≤ (n : Int) := by omega
  have b2 : (n : Int) < (L.length : Int) := by omega
  clear hv hrw hC
  go_enter Try.func27, Try.ntmps27
  go_wp2_with fail
  refine (Has.calls h m room L _ _ HP.out).mono ?_
  rintro e w1 ⟨rfl, rfl⟩
  rw [hl]
  go_wp2_with fail
  have HS2 := Aside0.mk (HS.out.below (below_drew1 (Below.refl _ _)))
  have HB2 := Aside0.mk (below_drew1 HB.out)
  have HV2 := Aside0.mk (Kd.C_below HV.out (below_drew1 (Below.refl _ w1)))
  have HF2 := Aside0.mk (Far.below (below_drew1 (Below.refl _ w1)) (fun k => k = m))
  have hcm2 : (World.drew w1).cell? ⟨m, n, none⟩ = some (.slice A q.length c) := hcm
  clear HS HB HV hcm hc0 hc1 HP
  refine start_ (n := 13) (S := fun w' => w'.cell? ⟨h, 0, none⟩ = some (.int .i64 room) ∧ w'.cell? ⟨h, 1, none⟩ = some (.slice (some ⟨m, 0, none⟩) L.length L.length) ∧ w'.cell? ⟨m, n, none⟩ = some (.slice A q.length c)) (ds := []) #[false, false, false, false, false, false, false, false, false, false, false, false, false] (by kernel_rfl) rfl rfl ⟨HS2.out.cell.1, HS2.out.cell.2, hcm2⟩ (fun hHeld => ?_)
  refine with_tabW rput.tab3 rput.bits3 (fun HT_ HW_ => ?_)
  generalize hW : w1.drew = W at HS2 HB2 HV2 HF2 hcm2 hHeld ⊢
  clear hW
  refine pure_ (i := 0) (N := some 11) (v := ?_) (a' := ?_) #[true, false, false, false, false, false, false, false, false, false, false, false, false] rfl rfl (any_of HT_.out (by kernel_rfl)) (fun _ _ _ h => h) (Or.inl ⟨by rfl, ?_⟩) ?_ ?_
  rotate_left
  · intro w'
    go_simp
    with_reducible rfl
  rotate_left
  · simp only [Act.put, List.setIfInBounds_toArray, List.set_cons_zero, List.set_cons_succ, i64_w, i32_w]
    rfl
  refine pure_ (i := 1) (N := some 12) (v := ?_) (a' := ?_) #[true, true, false, false, false, false, false, false, false, false, false, false, false] rfl rfl (any_of HT_.out (by kernel_rfl)) (fun _ _ _ h => h) (Or.inl ⟨by rfl, ?_⟩) ?_ ?_
  rotate_left
  · intro w'
    go_simp
    with_reducible rfl
  rotate_left
  · simp only [Act.put, List.setIfInBounds_toArray, List.set_cons_zero, List.set_cons_succ, i64_w, i32_w]
    rfl
  refine pure_ (i := 2) (N := some 13) (v := ?_) (a' := ?_) #[true, true, true, false, false, false, false, false, false, false, false, false, false] rfl rfl (any_of HT_.out (by kernel_rfl)) (fun _ _ _ h => h) (Or.inl ⟨by rfl, ?_⟩) ?_ ?_
  rotate_left
  · intro w'
    go_simp
    with_reducible rfl
  rotate_left
  · simp only [Act.put, List.setIfInBounds_toArray, List.set_cons_zero, List.set_cons_succ, i64_w, i32_w]
    rfl
  refine pure_ (i := 4) (N := some 15) (v := ?_) (a' := ?_) #[true, true, true, false, true, false, false, false, false, false, false, false, false] rfl rfl (any_of HT_.out (by kernel_rfl)) (fun _ _ _ h => h) (Or.inl ⟨by rfl, ?_⟩) ?_ ?_
  rotate_left
  · intro w'
    go_simp
    with_reducible rfl
  rotate_left
  · simp only [Act.put, List.setIfInBounds_toArray, List.set_cons_zero, List.set_cons_succ, i64_w, i32_w]
    rfl
  refine pure_ (i := 8) (N := some 19) (v := ?_) (a' := ?_) #[true, true, true, false, true, false, false, false, true, false, false, false, false] rfl rfl (any_of HT_.out (by kernel_rfl)) (fun _ _ _ h => h) (Or.inl ⟨by rfl, ?_⟩) ?_ ?_
  rotate_left
  · intro w'
    go_simp
    with_reducible rfl
  rotate_left
  · simp only [Act.put, List.setIfInBounds_toArray, List.set_cons_zero, List.set_cons_succ, i64_w, i32_w]
    rfl
  refine pure_ (i := 9) (N := some 20) (v := ?_) (a' := ?_) #[true, true, true, false, true, false, false, false, true, true, false, false, false] rfl rfl (any_of HT_.out (by kernel_rfl)) (fun _ _ _ h => h) (Or.inl ⟨by rfl, ?_⟩) ?_ ?_
  rotate_left
  · intro w'
    go_simp
    with_reducible rfl
  rotate_left
  · simp only [Act.put, List.setIfInBounds_toArray, List.set_cons_zero, List.set_cons_succ, i64_w, i32_w]
    rfl
  refine pure_ (i := 10) (N := some 21) (v := ?_) (a' := ?_) #[true, true, true, false, true, false, false, false, true, true, true, false, false] rfl rfl (any_of HT_.out (by kernel_rfl)) (fun _ _ _ h => h) (Or.inl ⟨by rfl, ?_⟩) ?_ ?_
  rotate_left
  · intro w'
    go_simp
    with_reducible rfl
  rotate_left
  · simp only [Act.put, List.setIfInBounds_toArray, List.set_cons_zero, List.set_cons_succ, i64_w, i32_w]
    rfl
  refine take_ (i := 3) (N := some 14) (v := ?_) (a' := ?_) #[true, true, true, true, true, false, false, false, true, true, true, false, false] rfl rfl (take_ofW HT_.out HW_.out (by kernel_rfl)) (fun _ _ _ h => h) (Or.inl ⟨by rfl, ?_⟩) hHeld ?_ ?_
  rotate_left
  · rintro w' ⟨s0, s1, s2⟩
    go_simp
    with_reducible rfl
  rotate_left
  · simp only [Act.put, List.setIfInBounds_toArray, List.set_cons_zero, List.set_cons_succ, i64_w, i32_w]
    rfl
  refine pure_ (i := 5) (N := some 16) (v := ?_) (a' := ?_) #[true, true, true, true, true, true, false, false, true, true, true, false, false] rfl rfl (any_of HT_.out (by kernel_rfl)) (fun _ _ _ h => h) (Or.inl ⟨by rfl, ?_⟩) ?_ ?_
  rotate_left
  · intro w'
    go_simp
    with_reducible rfl
  rotate_left
  · simp only [Act.put, List.setIfInBounds_toArray, List.set_cons_zero, List.set_cons_succ, i64_w, i32_w]
    rfl
  refine take_ (i := 6) (N := some 17) (v := ?_) (a' := ?_) #[true, true, true, true, true, true, true, false, true, true, true, false, false] rfl rfl (take_ofW HT_.out HW_.out (by kernel_rfl)) (fun _ _ _ h => h) (Or.inl ⟨by rfl, ?_⟩) hHeld ?_ ?_
  rotate_left
  · rintro w' ⟨s0, s1, s2⟩
    go_simp
    with_reducible rfl
  rotate_left
  · simp only [Act.put, List.setIfInBounds_toArray, List.set_cons_zero, List.set_cons_succ, i64_w, i32_w]
    rfl
  refine pure_ (i := 7) (N := some 18) (v := ?_) (a' := ?_) #[true, true, true, true, true, true, true, true, true, true, true, false, false] rfl rfl (any_of HT_.out (by kernel_rfl)) (fun _ _ _ h => h) (Or.inl ⟨by rfl, ?_⟩) ?_ ?_
  rotate_left
  · intro w'
    go_simp
    with_reducible rfl
  rotate_left
  · simp only [Act.put, List.setIfInBounds_toArray, List.set_cons_zero, List.set_cons_succ, i64_w, i32_w]
    rfl
  refine take_ (i := 11) (N := some 22) (v := ?_) (a' := ?_) #[true, true, true, true, true, true, true, true, true, true, true, true, false] rfl rfl (take_ofW HT_.out HW_.out (by kernel_rfl)) (fun _ _ _ h => h) (Or.inl ⟨by rfl, ?_⟩) hHeld ?_ ?_
  rotate_left
  · rintro w' ⟨s0, s1, s2⟩
    go_simp
    with_reducible rfl
  rotate_left
  · simp only [Act.put, List.setIfInBounds_toArray, List.set_cons_zero, List.set_cons_succ, i64_w, i32_w]
    rfl
  refine pure_ (i := 12) (N := some 23) (v := ?_) (a' := ?_) #[true, true, true, true, true, true, true, true, true, true, true, true, true] rfl rfl (any_of HT_.out (by kernel_rfl)) (fun _ _ _ h => h) (Or.inl ⟨by rfl, ?_⟩) ?_ ?_
  rotate_left
  · intro w'
    go_simp
    with_reducible rfl
  rotate_left
  · simp only [Act.put, List.setIfInBounds_toArray, List.set_cons_zero, List.set_cons_succ, i64_w, i32_w]
    rfl
  refine done_ (done_of HT_.out (by kernel_rfl)) ?_

  go_wp2
  go_ret
  exact ⟨rfl, ⟨vs, HS2.out⟩, HB2.out, HF2.out⟩
set_option maxHeartbeats 8000000 in
set_option maxRecDepth 100000 in
theorem RPut_room.calls (B h m room : Nat) (L : List (List Int)) (n : Nat) (x : Int) (q : List Int) (w0 w : World) (hB : Below B w0 w) (hBm : B ≤ m) (hR : RfP h m room L w) (hn : n < L.length) (hq : L.getD n [] = q) (hf : q.length < room) (hr : room ≤ 64) :
    Calls Try.prog 27 #[.pointer (some ⟨h, 0, none⟩), .int .i64 n, .int .i64 x] w fun e w' => e = .returned (.int .i64 0) ∧ RPost B h m room (L.set n (q ++ [x])) w0 w w' := by
  have dg : decide ((q.length : Int) ≥ (room : Int)) = false := decide_eq_false (by omega)
  have dl : decide ((room : Int) ≤ (q.length : Int)) = false := decide_eq_false (by omega)
  have HP := Aside0.mk hR
  obtain ⟨vs, hS⟩ := hR
  obtain ⟨hc0, hc1⟩ := hS.cell
  have HS := Aside0.mk hS
  have HB := Aside0.mk hB
  clear hS hB
  have hl : lane L n = true := by simp [lane]; omega
  obtain ⟨v, hv, hcm, hrw⟩ := HS.out.at hn
  rw [hq] at hrw
  obtain ⟨A, c, rfl, hc, hC⟩ := hrw.C
  have HV := Aside0.mk hC
  have b1 : (0 : Int) ≤ (n : Int) := by omega
  have b2 : (n : Int) < (L.length : Int) := by omega
  clear hv hrw hC
  go_enter Try.func27, Try.ntmps27
  go_wp2_with fail
  refine (Has.calls h m room L _ _ HP.out).mono ?_
  rintro e w1 ⟨rfl, rfl⟩
  rw [hl]
  go_wp2_with fail
  have HS2 := Aside0.mk (HS.out.below (below_drew1 (Below.refl _ _)))
  have HB2 := Aside0.mk (below_drew1 HB.out)
  have HV2 := Aside0.mk (Kd.C_below HV.out (below_drew1 (Below.refl _ w1)))
  have HF2 := Aside0.mk (Far.below (below_drew1 (Below.refl _ w1)) (fun k => k = m))
  have hcm2 : (World.drew w1).cell? ⟨m, n, none⟩ = some (.slice A q.length c) := hcm
  clear HS HB HV hcm hc0 hc1 HP
  refine start_ (n := 13) (S := fun w' => w'.cell? ⟨h, 0, none⟩ = some (.int .i64 room) ∧ w'.cell? ⟨h, 1, none⟩ = some (.slice (some ⟨m, 0, none⟩) L.length L.length) ∧ w'.cell? ⟨m, n, none⟩ = some (.slice A q.length c)) (ds := []) #[false, false, false, false, false, false, false, false, false, false, false, false, false] (by kernel_rfl) rfl rfl ⟨HS2.out.cell.1, HS2.out.cell.2, hcm2⟩ (fun hHeld => ?_)
  refine with_tabW rput.tab3 rput.bits3 (fun HT_ HW_ => ?_)
  generalize hW : w1.drew = W at HS2 HB2 HV2 HF2 hcm2 hHeld ⊢
  clear hW
  refine pure_ (i := 0) (N := some 11) (v := ?_) (a' := ?_) #[true, false, false, false, false, false, false, false, false, false, false, false, false] rfl rfl (any_of HT_.out (by kernel_rfl)) (fun _ _ _ h => h) (Or.inl ⟨by rfl, ?_⟩) ?_ ?_
  rotate_left
  · intro w'
    go_simp
    with_reducible rfl
  rotate_left
  · simp only [Act.put, List.setIfInBounds_toArray, List.set_cons_zero, List.set_cons_succ, i64_w, i32_w]
    rfl
  refine pure_ (i := 1) (N := some 12) (v := ?_) (a' := ?_) #[true, true, false, false, false, false, false, false, false, false, false, false, false] rfl rfl (any_of HT_.out (by kernel_rfl)) (fun _ _ _ h => h) (Or.inl ⟨by rfl, ?_⟩) ?_ ?_
  rotate_left
  · intro w'
    go_simp
    with_reducible rfl
  rotate_left
  · simp only [Act.put, List.setIfInBounds_toArray, List.set_cons_zero, List.set_cons_succ, i64_w, i32_w]
    rfl
  refine pure_ (i := 2) (N := some 13) (v := ?_) (a' := ?_) #[true, true, true, false, false, false, false, false, false, false, false, false, false] rfl rfl (any_of HT_.out (by kernel_rfl)) (fun _ _ _ h => h) (Or.inl ⟨by rfl, ?_⟩) ?_ ?_
  rotate_left
  · intro w'
    go_simp
    with_reducible rfl
  rotate_left
  · simp only [Act.put, List.setIfInBounds_toArray, List.set_cons_zero, List.set_cons_succ, i64_w, i32_w]
    rfl
  refine pure_ (i := 4) (N := some 15) (v := ?_) (a' := ?_) #[true, true, true, false, true, false, false, false, false, false, false, false, false] rfl rfl (any_of HT_.out (by kernel_rfl)) (fun _ _ _ h => h) (Or.inl ⟨by rfl, ?_⟩) ?_ ?_
  rotate_left
  · intro w'
    go_simp
    with_reducible rfl
  rotate_left
  · simp only [Act.put, List.setIfInBounds_toArray, List.set_cons_zero, List.set_cons_succ, i64_w, i32_w]
    rfl
  refine pure_ (i := 8) (N := some 19) (v := ?_) (a' := ?_) #[true, true, true, false, true, false, false, false, true, false, false, false, false] rfl rfl (any_of HT_.out (by kernel_rfl)) (fun _ _ _ h => h) (Or.inl ⟨by rfl, ?_⟩) ?_ ?_
  rotate_left
  · intro w'
    go_simp
    with_reducible rfl
  rotate_left
  · simp only [Act.put, List.setIfInBounds_toArray, List.set_cons_zero, List.set_cons_succ, i64_w, i32_w]
    rfl
  refine pure_ (i := 9) (N := some 20) (v := ?_) (a' := ?_) #[true, true, true, false, true, false, false, false, true, true, false, false, false] rfl rfl (any_of HT_.out (by kernel_rfl)) (fun _ _ _ h => h) (Or.inl ⟨by rfl, ?_⟩) ?_ ?_
  rotate_left
  · intro w'
    go_simp
    with_reducible rfl
  rotate_left
  · simp only [Act.put, List.setIfInBounds_toArray, List.set_cons_zero, List.set_cons_succ, i64_w, i32_w]
    rfl
  refine pure_ (i := 10) (N := some 21) (v := ?_) (a' := ?_) #[true, true, true, false, true, false, false, false, true, true, true, false, false] rfl rfl (any_of HT_.out (by kernel_rfl)) (fun _ _ _ h => h) (Or.inl ⟨by rfl, ?_⟩) ?_ ?_
  rotate_left
  · intro w'
    go_simp
    with_reducible rfl
  rotate_left
  · simp only [Act.put, List.setIfInBounds_toArray, List.set_cons_zero, List.set_cons_succ, i64_w, i32_w]
    rfl
  refine take_ (i := 3) (N := some 14) (v := ?_) (a' := ?_) #[true, true, true, true, true, false, false, false, true, true, true, false, false] rfl rfl (take_ofW HT_.out HW_.out (by kernel_rfl)) (fun _ _ _ h => h) (Or.inl ⟨by rfl, ?_⟩) hHeld ?_ ?_
  rotate_left
  · rintro w' ⟨s0, s1, s2⟩
    go_simp
    with_reducible rfl
  rotate_left
  · simp only [Act.put, List.setIfInBounds_toArray, List.set_cons_zero, List.set_cons_succ, i64_w, i32_w]
    rfl
  refine pure_ (i := 5) (N := some 16) (v := ?_) (a' := ?_) #[true, true, true, true, true, true, false, false, true, true, true, false, false] rfl rfl (any_of HT_.out (by kernel_rfl)) (fun _ _ _ h => h) (Or.inl ⟨by rfl, ?_⟩) ?_ ?_
  rotate_left
  · intro w'
    go_simp
    with_reducible rfl
  rotate_left
  · simp only [Act.put, List.setIfInBounds_toArray, List.set_cons_zero, List.set_cons_succ, i64_w, i32_w]
    rfl
  refine take_ (i := 6) (N := some 17) (v := ?_) (a' := ?_) #[true, true, true, true, true, true, true, false, true, true, true, false, false] rfl rfl (take_ofW HT_.out HW_.out (by kernel_rfl)) (fun _ _ _ h => h) (Or.inl ⟨by rfl, ?_⟩) hHeld ?_ ?_
  rotate_left
  · rintro w' ⟨s0, s1, s2⟩
    go_simp
    with_reducible rfl
  rotate_left
  · simp only [Act.put, List.setIfInBounds_toArray, List.set_cons_zero, List.set_cons_succ, i64_w, i32_w]
    rfl
  refine pure_ (i := 7) (N := some 18) (v := ?_) (a' := ?_) #[true, true, true, true, true, true, true, true, true, true, true, false, false] rfl rfl (any_of HT_.out (by kernel_rfl)) (fun _ _ _ h => h) (Or.inl ⟨by rfl, ?_⟩) ?_ ?_
  rotate_left
  · intro w'
    go_simp
    with_reducible rfl
  rotate_left
  · simp only [Act.put, List.setIfInBounds_toArray, List.set_cons_zero, List.set_cons_succ, i64_w, i32_w]
    rfl
  refine take_ (i := 11) (N := some 22) (v := ?_) (a' := ?_) #[true, true, true, true, true, true, true, true, true, true, true, true, false] rfl rfl (take_ofW HT_.out HW_.out (by kernel_rfl)) (fun _ _ _ h => h) (Or.inl ⟨by rfl, ?_⟩) hHeld ?_ ?_
  rotate_left
  · rintro w' ⟨s0, s1, s2⟩
    go_simp
    with_reducible rfl
  rotate_left
  · simp only [Act.put, List.setIfInBounds_toArray, List.set_cons_zero, List.set_cons_succ, i64_w, i32_w]
    rfl
  refine pure_ (i := 12) (N := some 23) (v := ?_) (a' := ?_) #[true, true, true, true, true, true, true, true, true, true, true, true, true] rfl rfl (any_of HT_.out (by kernel_rfl)) (fun _ _ _ h => h) (Or.inl ⟨by rfl, ?_⟩) ?_ ?_
  rotate_left
  · intro w'
    go_simp
    with_reducible rfl
  rotate_left
  · simp only [Act.put, List.setIfInBounds_toArray, List.set_cons_zero, List.set_cons_succ, i64_w, i32_w]
    rfl
  refine done_ (done_of HT_.out (by kernel_rfl)) ?_

  clear dg dl
  go_wp2_with fail
  clear hHeld
  obtain ⟨w2, hw2⟩ : ∃ w2, w2 = W := ⟨_, rfl⟩
  rw [← hw2] at HS2 HB2 HV2 HF2 hcm2 ⊢
  clear hw2
  clear W
  have HS3 := Aside0.mk (HS2.out.below (below_drew1 (Below.refl _ w2)))
  have HB3 := Aside0.mk (below_drew1 HB2.out)
  have HC3 := Aside0.mk (Kd.C_below HV2.out (below_drew1 (Below.refl _ w2)))
  have HF3 := Aside0.mk (HF2.out.trans (Far.below (below_drew1 (Below.refl _ w2)) (fun k => k = m)) (fun _ _ h => h))
  have hcm3 : (World.drew w2).cell? ⟨m, n, none⟩ = some (.slice A q.length c) := hcm2
  clear HS2 HB2 HV2 HF2 hcm2
  have HS2 := HS3
  have HB2 := HB3
  have HC2 := HC3
  have HF2 := HF3
  have hcm2 := hcm3
  clear HS3 HB3 HC3 HF3 hcm3
  refine start_ (n := 19) (S := fun w' => w'.cell? ⟨h, 1, none⟩ = some (.slice (some ⟨m, 0, none⟩) L.length L.length) ∧ w'.cell? ⟨m, n, none⟩ = some (.slice A q.length c)) (ds := [18]) #[false, false, false, false, false, false, false, false, false, false, false, false, false, false, false, false, false, false, false] (by kernel_rfl) rfl rfl ⟨HS2.out.cell.2, hcm2⟩ (fun hHeld => ?_)
  refine with_tabW rput.tab5 rput.bits5 (fun HT_ HW_ => ?_)
  generalize hW : w2.drew = W at HS2 HB2 HC2 HF2 hcm2 hHeld ⊢
  clear hW
  have hcmB : ∀ w' : World, Below W.heap.size W w' → w'.cell? ⟨m, n, none⟩ = some (.slice A q.length c) := fun w' hb => by rw [blk_cell (blk_below HS2.out.mb hb), ← blk_cell HS2.out.mb]; exact hcm2
  refine pure_ (i := 0) (N := some 24) (v := ?_) (a' := ?_) #[true, false, false, false, false, false, false, false, false, false, false, false, false, false, false, false, false, false, false] rfl rfl (any_of HT_.out (by kernel_rfl)) (fun _ _ _ h => h) (Or.inl ⟨by rfl, ?_⟩) ?_ ?_
  rotate_left
  · intro w'
    go_simp
    with_reducible rfl
  rotate_left
  · simp only [Act.put, List.setIfInBounds_toArray, List.set_cons_zero, List.set_cons_succ, i64_w, i32_w]
    rfl
  refine pure_ (i := 1) (N := some 25) (v := ?_) (a' := ?_) #[true, true, false, false, false, false, false, false, false, false, false, false, false, false, false, false, false, false, false] rfl rfl (any_of HT_.out (by kernel_rfl)) (fun _ _ _ h => h) (Or.inl ⟨by rfl, ?_⟩) ?_ ?_
  rotate_left
  · intro w'
    go_simp
    with_reducible rfl
  rotate_left
  · simp only [Act.put, List.setIfInBounds_toArray, List.set_cons_zero, List.set_cons_succ, i64_w, i32_w]
    rfl
  refine pure_ (i := 2) (N := some 26) (v := ?_) (a' := ?_) #[true, true, true, false, false, false, false, false, false, false, false, false, false, false, false, false, false, false, false] rfl rfl (any_of HT_.out (by kernel_rfl)) (fun _ _ _ h => h) (Or.inl ⟨by rfl, ?_⟩) ?_ ?_
  rotate_left
  · intro w'
    go_simp
    with_reducible rfl
  rotate_left
  · simp only [Act.put, List.setIfInBounds_toArray, List.set_cons_zero, List.set_cons_succ, i64_w, i32_w]
    rfl
  refine pure_ (i := 4) (N := some 28) (v := ?_) (a' := ?_) #[true, true, true, false, true, false, false, false, false, false, false, false, false, false, false, false, false, false, false] rfl rfl (any_of HT_.out (by kernel_rfl)) (fun _ _ _ h => h) (Or.inl ⟨by rfl, ?_⟩) ?_ ?_
  rotate_left
  · intro w'
    go_simp
    with_reducible rfl
  rotate_left
  · simp only [Act.put, List.setIfInBounds_toArray, List.set_cons_zero, List.set_cons_succ, i64_w, i32_w]
    rfl
  refine pure_ (i := 6) (N := some 30) (v := ?_) (a' := ?_) #[true, true, true, false, true, false, true, false, false, false, false, false, false, false, false, false, false, false, false] rfl rfl (any_of HT_.out (by kernel_rfl)) (fun _ _ _ h => h) (Or.inl ⟨by rfl, ?_⟩) ?_ ?_
  rotate_left
  · intro w'
    go_simp
    with_reducible rfl
  rotate_left
  · simp only [Act.put, List.setIfInBounds_toArray, List.set_cons_zero, List.set_cons_succ, i64_w, i32_w]
    rfl
  refine pure_ (i := 7) (N := some 31) (v := ?_) (a' := ?_) #[true, true, true, false, true, false, true, true, false, false, false, false, false, false, false, false, false, false, false] rfl rfl (any_of HT_.out (by kernel_rfl)) (fun _ _ _ h => h) (Or.inl ⟨by rfl, ?_⟩) ?_ ?_
  rotate_left
  · intro w'
    go_simp
    with_reducible rfl
  rotate_left
  · simp only [Act.put, List.setIfInBounds_toArray, List.set_cons_zero, List.set_cons_succ, i64_w, i32_w]
    rfl
  refine pure_ (i := 8) (N := some 32) (v := ?_) (a' := ?_) #[true, true, true, false, true, false, true, true, true, false, false, false, false, false, false, false, false, false, false] rfl rfl (any_of HT_.out (by kernel_rfl)) (fun _ _ _ h => h) (Or.inl ⟨by rfl, ?_⟩) ?_ ?_
  rotate_left
  · intro w'
    go_simp
    with_reducible rfl
  rotate_left
  · simp only [Act.put, List.setIfInBounds_toArray, List.set_cons_zero, List.set_cons_succ, i64_w, i32_w]
    rfl
  refine pure_ (i := 10) (N := some 34) (v := ?_) (a' := ?_) #[true, true, true, false, true, false, true, true, true, false, true, false, false, false, false, false, false, false, false] rfl rfl (any_of HT_.out (by kernel_rfl)) (fun _ _ _ h => h) (Or.inl ⟨by rfl, ?_⟩) ?_ ?_
  rotate_left
  · intro w'
    go_simp
    with_reducible rfl
  rotate_left
  · simp only [Act.put, List.setIfInBounds_toArray, List.set_cons_zero, List.set_cons_succ, i64_w, i32_w]
    rfl
  refine pure_ (i := 14) (N := some 38) (v := ?_) (a' := ?_) #[true, true, true, false, true, false, true, true, true, false, true, false, false, false, true, false, false, false, false] rfl rfl (any_of HT_.out (by kernel_rfl)) (fun _ _ _ h => h) (Or.inl ⟨by rfl, ?_⟩) ?_ ?_
  rotate_left
  · intro w'
    go_simp
    with_reducible rfl
  rotate_left
  · simp only [Act.put, List.setIfInBounds_toArray, List.set_cons_zero, List.set_cons_succ, i64_w, i32_w]
    rfl
  refine take_ (i := 3) (N := some 27) (v := ?_) (a' := ?_) #[true, true, true, true, true, false, true, true, true, false, true, false, false, false, true, false, false, false, false] rfl rfl (take_ofW HT_.out HW_.out (by kernel_rfl)) (fun _ _ _ h => h) (Or.inl ⟨by rfl, ?_⟩) hHeld ?_ ?_
  rotate_left
  · rintro w' ⟨s0, s1⟩
    go_simp
    with_reducible rfl
  rotate_left
  · simp only [Act.put, List.setIfInBounds_toArray, List.set_cons_zero, List.set_cons_succ, i64_w, i32_w]
    rfl
  refine take_ (i := 9) (N := some 33) (v := ?_) (a' := ?_) #[true, true, true, true, true, false, true, true, true, true, true, false, false, false, true, false, false, false, false] rfl rfl (take_ofW HT_.out HW_.out (by kernel_rfl)) (fun _ _ _ h => h) (Or.inl ⟨by rfl, ?_⟩) hHeld ?_ ?_
  rotate_left
  · rintro w' ⟨s0, s1⟩
    go_simp
    with_reducible rfl
  rotate_left
  · simp only [Act.put, List.setIfInBounds_toArray, List.set_cons_zero, List.set_cons_succ, i64_w, i32_w]
    rfl
  refine pure_ (i := 11) (N := some 35) (v := ?_) (a' := ?_) #[true, true, true, true, true, false, true, true, true, true, true, true, false, false, true, false, false, false, false] rfl rfl (any_of HT_.out (by kernel_rfl)) (fun _ _ _ h => h) (Or.inl ⟨by rfl, ?_⟩) ?_ ?_
  rotate_left
  · intro w'
    go_simp
    with_reducible rfl
  rotate_left
  · simp only [Act.put, List.setIfInBounds_toArray, List.set_cons_zero, List.set_cons_succ, i64_w, i32_w]
    rfl
  refine take_ (i := 12) (N := some 36) (v := ?_) (a' := ?_) #[true, true, true, true, true, false, true, true, true, true, true, true, true, false, true, false, false, false, false] rfl rfl (take_ofW HT_.out HW_.out (by kernel_rfl)) (fun _ _ _ h => h) (Or.inl ⟨by rfl, ?_⟩) hHeld ?_ ?_
  rotate_left
  · rintro w' ⟨s0, s1⟩
    go_simp
    with_reducible rfl
  rotate_left
  · simp only [Act.put, List.setIfInBounds_toArray, List.set_cons_zero, List.set_cons_succ, i64_w, i32_w]
    rfl
  refine join_ (σ := Value × Value × Value) 3 #[true, true, true, true, true, true, true, true, true, true, true, true, true, true, true, true, false, false, false] (fun s => [(29, s.1), (37, s.2.1), (39, s.2.2)]) (fun s w' => Kd.R (Kd.int .i64) 2 w' W.heap.size (fun _ => True) s.2.1 q ∧ Kd.R (Kd.int .i64) 2 w' W.heap.size (fun _ => True) s.2.2 [x] ∧ Below W.heap.size W w') ?_ ?_
  rotate_left
  · intro hCont
    refine two_ (i := 5) (j := 15) (Ni := some 29) (Nj := some 39) #[true, true, true, true, true, true, true, true, true, true, true, true, true, false, true, false, false, false, false] #[true, true, true, true, true, false, true, true, true, true, true, true, true, false, true, true, false, false, false] rfl rfl rfl rfl (by kernel_rfl) (by decide) (by decide) (fun K hK => ?_) (fun K hK => ?_)
    · skip
      refine Kd.R_lit_step (Kd.int .i64) (w0 := W) W.heap.size 2 ?hw (N := 29) ?hd (xs := ([] : List Int)) (inner := []) (ok := fun _ => True) (okp := fun _ => True) ?hr ?hp (fun _ hk => hk) trivial (Below.refl _ W) ?hs (by simp) ?_
      (case hw => rfl)
      (case hd => rfl)
      (case hr => first | (go_simp; done) | (go_simp; rfl))
      (case hp => exact Reps.none _ _)
      (case hs => exact Nat.le_refl _)
      intro ve u1 ho hb hg hn
      have He1 := Aside0.mk ho
      have HF1 := Aside0.mk hb
      have HG1 := Aside0.mk hg
      obtain ⟨be, hbe, hse⟩ := hn
      have hle := Kd.R_lt ho _ hbe
      clear ho hb hg
      refine hK.out _ _ ⟨(HS2.out.below HF1.out).cell.2, (hcmB _ HF1.out)⟩ (fun hHeld => ?_)
      clear hK K
      refine norm_ (a' := ?_) ?_ ?_
      rotate_left
      · show Act.put _ (some 29) _ = _
        simp only [Act.put, List.setIfInBounds_toArray, List.set_cons_zero, List.set_cons_succ, i64_w, i32_w]
        rfl
      refine two_ (i := 13) (j := 15) (Ni := some 37) (Nj := some 39) #[true, true, true, true, true, true, true, true, true, true, true, true, true, true, true, false, false, false, false] #[true, true, true, true, true, true, true, true, true, true, true, true, true, false, true, true, false, false, false] rfl rfl rfl rfl (by kernel_rfl) (by decide) (by decide) (fun K hK => ?_) (fun K hK => ?_)
      · skip
        refine Kd.R_append_rows_step (Kd.int .i64) (w0 := W) W.heap.size ?hw (.tmp 29) (.tmp 36) 27 2 (.int .i64 0) 8 rfl Try.underlying27 info2 rfl (by decide) (by omega) ve [] q A q.length c (fun _ => True) (fun _ => False) rfl rfl ?aO ?aR (fun _ _ h => h) (fun _ h => h.elim) (fun _ _ => trivial) HF1.out HF1.out.size ?aL ?_
        (case hw => rfl)
        (case aO => exact He1.out)
        (case aR => exact Kd.C_below HC2.out HF1.out)
        (case aL => first | omega | (simp; omega) | (simp only [List.length_nil]; omega))
        intro vr u2 ho hb hg hat
        rw [List.nil_append] at ho
        have Hr2 := Aside0.mk ho
        have HF2 := Aside0.mk hb
        have HG2 := Aside0.mk hg
        have HT2 := Aside0.mk hat
        clear hat
        clear ho hb hg
        refine hK.out _ _ ⟨(HS2.out.below HF2.out).cell.2, (hcmB _ HF2.out)⟩ (fun hHeld => ?_)
        clear hK K
        refine norm_ (a' := ?_) ?_ ?_
        rotate_left
        · show Act.put _ (some 37) _ = _
          simp only [Act.put, List.setIfInBounds_toArray, List.set_cons_zero, List.set_cons_succ, i64_w, i32_w]
          rfl
        refine one_ (i := 15) (N := some 39) #[true, true, true, true, true, true, true, true, true, true, true, true, true, true, true, true, false, false, false] rfl rfl (one_of HT_.out (by kernel_rfl)) (by decide) (fun K hK => ?_)
        refine Kd.R_lit_step (Kd.int .i64) (w0 := W) W.heap.size 2 ?hw (N := 39) ?hd (xs := ([x] : List Int)) (inner := [.int .i64 x]) (ok := fun _ => True) (okp := fun _ => True) ?hr ?hp (fun _ hk => hk) trivial HF2.out ?hs (by simp) ?_
        (case hw => rfl)
        (case hd => rfl)
        (case hr => first | (go_simp; done) | (go_simp; rfl))
        (case hp => exact (Reps.one (show Kd.M (Kd.int .i64) _ _ _ x [.int .i64 x] from rfl) (Reps.none _ _)))
        (case hs => exact HF2.out.size)
        intro vz u3 ho hb hg hn
        have Hz3 := Aside0.mk ho
        have HF3 := Aside0.mk hb
        have HG3 := Aside0.mk hg
        obtain ⟨bz, hbz, hsz⟩ := hn
        have hlz := Kd.R_lt ho _ hbz
        have Hr3 := Aside0.mk (Kd.R_grown2 Hr2.out rfl hg (fun _ e => absurd e (by simp)))
        clear ho hb hg
        refine hK.out _ _ ⟨(HS2.out.below HF3.out).cell.2, (hcmB _ HF3.out)⟩ (fun hHeld => ?_)
        clear hK K
        refine norm_ (a' := ?_) ?_ ?_
        rotate_left
        · show Act.put _ (some 39) _ = _
          simp only [Act.put, List.setIfInBounds_toArray, List.set_cons_zero, List.set_cons_succ, i64_w, i32_w]
          rfl
        exact norm_ (by simp only [putAll, Act.put, List.setIfInBounds_toArray, List.set_cons_zero, List.set_cons_succ]) (hCont (ve, vr, vz) _ ⟨Hr3.out, Hz3.out, HF3.out⟩)
      · skip
        refine Kd.R_lit_step (Kd.int .i64) (w0 := W) W.heap.size 2 ?hw (N := 39) ?hd (xs := ([x] : List Int)) (inner := [.int .i64 x]) (ok := fun _ => True) (okp := fun _ => True) ?hr ?hp (fun _ hk => hk) trivial HF1.out ?hs (by simp) ?_
        (case hw => rfl)
        (case hd => rfl)
        (case hr => first | (go_simp; done) | (go_simp; rfl))
        (case hp => exact (Reps.one (show Kd.M (Kd.int .i64) _ _ _ x [.int .i64 x] from rfl) (Reps.none _ _)))
        (case hs => exact HF1.out.size)
        intro vz u2 ho hb hg hn
        have Hz2 := Aside0.mk ho
        have HF2 := Aside0.mk hb
        have HG2 := Aside0.mk hg
        obtain ⟨bz, hbz, hsz⟩ := hn
        have hlz := Kd.R_lt ho _ hbz
        have He2 := Aside0.mk (Kd.R_grown2 He1.out rfl hg (fun _ e => absurd e (by simp)))
        clear ho hb hg
        refine hK.out _ _ ⟨(HS2.out.below HF2.out).cell.2, (hcmB _ HF2.out)⟩ (fun hHeld => ?_)
        clear hK K
        refine norm_ (a' := ?_) ?_ ?_
        rotate_left
        · show Act.put _ (some 39) _ = _
          simp only [Act.put, List.setIfInBounds_toArray, List.set_cons_zero, List.set_cons_succ, i64_w, i32_w]
          rfl
        refine one_ (i := 13) (N := some 37) #[true, true, true, true, true, true, true, true, true, true, true, true, true, true, true, true, false, false, false] rfl rfl (one_of HT_.out (by kernel_rfl)) (by decide) (fun K hK => ?_)
        refine Kd.R_append_rows_step (Kd.int .i64) (w0 := W) W.heap.size ?hw (.tmp 29) (.tmp 36) 27 2 (.int .i64 0) 8 rfl Try.underlying27 info2 rfl (by decide) (by omega) ve [] q A q.length c (fun _ => True) (fun _ => False) rfl rfl ?aO ?aR (fun _ _ h => h) (fun _ h => h.elim) (fun _ _ => trivial) HF2.out HF2.out.size ?aL ?_
        (case hw => rfl)
        (case aO => exact He2.out)
        (case aR => exact Kd.C_below HC2.out HF2.out)
        (case aL => first | omega | (simp; omega) | (simp only [List.length_nil]; omega))
        intro vr u3 ho hb hg hat
        rw [List.nil_append] at ho
        have Hr3 := Aside0.mk ho
        have HF3 := Aside0.mk hb
        have HG3 := Aside0.mk hg
        have HT3 := Aside0.mk hat
        clear hat
        have Hz3 := Aside0.mk (Kd.R_grown1 Hz2.out rfl hg (by rw [hbe, hbz]; intro e; have := Option.some.inj e; omega))
        clear ho hb hg
        refine hK.out _ _ ⟨(HS2.out.below HF3.out).cell.2, (hcmB _ HF3.out)⟩ (fun hHeld => ?_)
        clear hK K
        refine norm_ (a' := ?_) ?_ ?_
        rotate_left
        · show Act.put _ (some 37) _ = _
          simp only [Act.put, List.setIfInBounds_toArray, List.set_cons_zero, List.set_cons_succ, i64_w, i32_w]
          rfl
        exact norm_ (by simp only [putAll, Act.put, List.setIfInBounds_toArray, List.set_cons_zero, List.set_cons_succ]) (hCont (ve, vr, vz) _ ⟨Hr3.out, Hz3.out, HF3.out⟩)
    · skip
      refine Kd.R_lit_step (Kd.int .i64) (w0 := W) W.heap.size 2 ?hw (N := 39) ?hd (xs := ([x] : List Int)) (inner := [.int .i64 x]) (ok := fun _ => True) (okp := fun _ => True) ?hr ?hp (fun _ hk => hk) trivial (Below.refl _ W) ?hs (by simp) ?_
      (case hw => rfl)
      (case hd => rfl)
      (case hr => first | (go_simp; done) | (go_simp; rfl))
      (case hp => exact (Reps.one (show Kd.M (Kd.int .i64) _ _ _ x [.int .i64 x] from rfl) (Reps.none _ _)))
      (case hs => exact Nat.le_refl _)
      intro vz u1 ho hb hg hn
      have Hz1 := Aside0.mk ho
      have HF1 := Aside0.mk hb
      have HG1 := Aside0.mk hg
      obtain ⟨bz, hbz, hsz⟩ := hn
      have hlz := Kd.R_lt ho _ hbz
      clear ho hb hg
      refine hK.out _ _ ⟨(HS2.out.below HF1.out).cell.2, (hcmB _ HF1.out)⟩ (fun hHeld => ?_)
      clear hK K
      refine norm_ (a' := ?_) ?_ ?_
      rotate_left
      · show Act.put _ (some 39) _ = _
        simp only [Act.put, List.setIfInBounds_toArray, List.set_cons_zero, List.set_cons_succ, i64_w, i32_w]
        rfl
      refine one_ (i := 5) (N := some 29) #[true, true, true, true, true, true, true, true, true, true, true, true, true, false, true, true, false, false, false] rfl rfl (one_of HT_.out (by kernel_rfl)) (by decide) (fun K hK => ?_)
      refine Kd.R_lit_step (Kd.int .i64) (w0 := W) W.heap.size 2 ?hw (N := 29) ?hd (xs := ([] : List Int)) (inner := []) (ok := fun _ => True) (okp := fun _ => True) ?hr ?hp (fun _ hk => hk) trivial HF1.out ?hs (by simp) ?_
      (case hw => rfl)
      (case hd => rfl)
      (case hr => first | (go_simp; done) | (go_simp; rfl))
      (case hp => exact Reps.none _ _)
      (case hs => exact HF1.out.size)
      intro ve u2 ho hb hg hn
      have He2 := Aside0.mk ho
      have HF2 := Aside0.mk hb
      have HG2 := Aside0.mk hg
      obtain ⟨be, hbe, hse⟩ := hn
      have hle := Kd.R_lt ho _ hbe
      have Hz2 := Aside0.mk (Kd.R_grown2 Hz1.out rfl hg (fun _ e => absurd e (by simp)))
      clear ho hb hg
      refine hK.out _ _ ⟨(HS2.out.below HF2.out).cell.2, (hcmB _ HF2.out)⟩ (fun hHeld => ?_)
      clear hK K
      refine norm_ (a' := ?_) ?_ ?_
      rotate_left
      · show Act.put _ (some 29) _ = _
        simp only [Act.put, List.setIfInBounds_toArray, List.set_cons_zero, List.set_cons_succ, i64_w, i32_w]
        rfl
      refine one_ (i := 13) (N := some 37) #[true, true, true, true, true, true, true, true, true, true, true, true, true, true, true, true, false, false, false] rfl rfl (one_of HT_.out (by kernel_rfl)) (by decide) (fun K hK => ?_)
      refine Kd.R_append_rows_step (Kd.int .i64) (w0 := W) W.heap.size ?hw (.tmp 29) (.tmp 36) 27 2 (.int .i64 0) 8 rfl Try.underlying27 info2 rfl (by decide) (by omega) ve [] q A q.length c (fun _ => True) (fun _ => False) rfl rfl ?aO ?aR (fun _ _ h => h) (fun _ h => h.elim) (fun _ _ => trivial) HF2.out HF2.out.size ?aL ?_
      (case hw => rfl)
      (case aO => exact He2.out)
      (case aR => exact Kd.C_below HC2.out HF2.out)
      (case aL => first | omega | (simp; omega) | (simp only [List.length_nil]; omega))
      intro vr u3 ho hb hg hat
      rw [List.nil_append] at ho
      have Hr3 := Aside0.mk ho
      have HF3 := Aside0.mk hb
      have HG3 := Aside0.mk hg
      have HT3 := Aside0.mk hat
      clear hat
      have Hz3 := Aside0.mk (Kd.R_grown1 Hz2.out rfl hg (by rw [hbe, hbz]; intro e; have := Option.some.inj e; omega))
      clear ho hb hg
      refine hK.out _ _ ⟨(HS2.out.below HF3.out).cell.2, (hcmB _ HF3.out)⟩ (fun hHeld => ?_)
      clear hK K
      refine norm_ (a' := ?_) ?_ ?_
      rotate_left
      · show Act.put _ (some 37) _ = _
        simp only [Act.put, List.setIfInBounds_toArray, List.set_cons_zero, List.set_cons_succ, i64_w, i32_w]
        rfl
      exact norm_ (by simp only [putAll, Act.put, List.setIfInBounds_toArray, List.set_cons_zero, List.set_cons_succ]) (hCont (ve, vr, vz) _ ⟨Hr3.out, Hz3.out, HF3.out⟩)
  rintro ⟨ve, vr, vz⟩ u ⟨hr, hz, hf⟩
  have Hr := Aside0.mk hr
  have Hz := Aside0.mk hz
  have HFu := Aside0.mk hf
  obtain ⟨Az, cz, rfl, hcz, hCz⟩ := Kd.R_reads hz
  have HCz := Aside0.mk hCz
  clear hr hz hf hCz
  have hHeld : (fun w' : World => w'.cell? ⟨h, 1, none⟩ = some (.slice (some ⟨m, 0, none⟩) L.length L.length) ∧ w'.cell? ⟨m, n, none⟩ = some (.slice A q.length c)) u := ⟨(HS2.out.below HFu.out).cell.2, (hcmB _ HFu.out)⟩
  refine norm_ (a' := ?_) ?_ ?_
  rotate_left
  · simp only [putAll, Act.put, List.setIfInBounds_toArray, List.set_cons_zero, List.set_cons_succ]
    rfl
  refine one_ (i := 16) (N := some 40) #[true, true, true, true, true, true, true, true, true, true, true, true, true, true, true, true, true, false, false] rfl rfl (one_of HT_.out (by kernel_rfl)) (by decide) (fun K hK => ?_)
  refine Kd.R_append_rows_step (Kd.int .i64) (w0 := W) W.heap.size ?hw (.tmp 37) (.tmp 39) 27 2 (.int .i64 0) 8 rfl Try.underlying27 info2 rfl (by decide) (by omega) vr q [x] Az 1 cz (fun _ => True) (fun _ => False) rfl rfl ?aO ?aR (fun _ _ h => h) (fun _ h => h.elim) (fun _ _ => trivial) HFu.out HFu.out.size ?aL ?_
  (case hw => rfl)
  (case aO => exact Hr.out)
  (case aR => exact HCz.out)
  (case aL => first | omega | (simp; omega) | (simp only [List.length_nil]; omega))
  intro v9 u9 ho hb hg hat
  obtain ⟨A9, c9, rfl⟩ := Kd.R_slice ho
  have HR9 := Aside0.mk (Rw.of_R ho)
  have HF9 := Aside0.mk hb
  have hcm9 := hcmB _ hb
  have hfm9 := blk_frozen (HS2.out.below hb).mb n
  clear ho hb hg hat
  refine hK.out _ _ ⟨(HS2.out.below HF9.out).cell.2, (hcmB _ HF9.out)⟩ (fun hHeld => ?_)
  clear hK K
  refine norm_ (a' := ?_) ?_ ?_
  rotate_left
  · show Act.put _ (some 40) _ = _
    simp only [Act.put, List.setIfInBounds_toArray, List.set_cons_zero, List.set_cons_succ, i64_w, i32_w]
    rfl
  refine pure_ (i := 17) (N := some 41) (v := ?_) (a' := ?_) #[true, true, true, true, true, true, true, true, true, true, true, true, true, true, true, true, true, true, false] rfl rfl (any_of HT_.out (by kernel_rfl)) (fun _ _ _ h => h) (Or.inl ⟨by rfl, ?_⟩) ?_ ?_
  rotate_left
  · intro w'
    go_simp
    with_reducible rfl
  rotate_left
  · simp only [Act.put, List.setIfInBounds_toArray, List.set_cons_zero, List.set_cons_succ, i64_w, i32_w]
    rfl
  refine last_ (i := 18) (N := none) #[true, true, true, true, true, true, true, true, true, true, true, true, true, true, true, true, true, true, true] rfl rfl (by kernel_rfl) (by decide) (fun K hK => ?_)
  refine skip_ (w1 := ?_) (by rfl) rfl ?_ ?_
  rotate_left
  · go_simp
    rfl
  refine hK.out _ _ ?_
  clear hK K
  refine done_ (done_of HT_.out (by kernel_rfl)) ?_

  go_wp2
  go_ret
  have HSn := (HS2.out.below HF9.out).put hn HR9.out
  rw [show (q ++ [x]).length = q.length + 1 from by simp] at HSn
  have hBW : B ≤ W.heap.size := by have := blk_lt HS2.out.mb; omega
  refine ⟨rfl, ⟨_, HSn⟩, (HB2.out.trans (HF9.out.mono hBW)).setCell (p := ⟨m, n, none⟩) hBm _, ?_⟩
  exact (HF2.out.trans (Far.below HF9.out (fun k => k = m)) (fun _ _ h => h)).trans (show Far _ _ (fun k => k = m) from ⟨rfl, rfl, rfl, by simp, fun k hk hs => Below.heap_setCell _ ⟨m, n, none⟩ _ k hs⟩) (fun _ _ h => h)
set_option maxHeartbeats 8000000 in
set_option maxRecDepth 100000 in
theorem RPut_out.calls (h m room : Nat) (L : List (List Int)) (i x : Int) (w : World) (hR : RfP h m room L w) (hl : lane L i = false) :
    Calls Try.prog 27 #[.pointer (some ⟨h, 0, none⟩), .int .i64 i, .int .i64 x] w fun e w' => e = .returned (.int .i64 2) ∧ w' = w := by
  have HP := Aside0.mk hR
  clear hR
  go_enter Try.func27, Try.ntmps27
  go_wp2_with fail
  refine (Has.calls h m room L _ _ HP.out).mono ?_
  rintro e w1 ⟨rfl, rfl⟩
  rw [hl]
  go_wp2
  go_ret
  exact ⟨rfl, rfl⟩
theorem RPut.calls (B h m room : Nat) (L : List (List Int)) (i x : Int) (w0 w : World) (hB : Below B w0 w) (hBm : B ≤ m) (hR : RfP h m room L w) (hr : room ≤ 64) :
    Calls Try.prog 27 #[.pointer (some ⟨h, 0, none⟩), .int .i64 i, .int .i64 x] w fun e w' => e = .returned (.int .i64 (putV room L i x).1) ∧ RPost B h m room (putV room L i x).2 w0 w w' := by
  by_cases hl : lane L i = true
  · obtain ⟨n, rfl, hn⟩ := lane_of hl
    by_cases hf : (L.getD n []).length < room
    · have e : putV room L n x = (0, L.set n (L.getD n [] ++ [x])) := by unfold putV; rw [if_pos hl]; simp only [Int.toNat_natCast]; rw [if_pos hf]
      rw [e]
      exact RPut_room.calls B h m room L n x _ w0 w hB hBm hR hn rfl hf hr
    · have e : putV room L n x = (7, L) := by unfold putV; rw [if_pos hl]; simp only [Int.toNat_natCast]; rw [if_neg hf]
      rw [e]
      exact RPut_full.calls B h m room L n x _ w0 w hB hBm hR hn rfl hf
  · have e : putV room L i x = (2, L) := by unfold putV; rw [if_neg hl]
    rw [e]
    refine (RPut_out.calls h m room L i x w hR (by simpa using hl)).mono ?_
    rintro e w' ⟨rfl, rfl⟩
    exact ⟨rfl, RPost.same hR hB⟩
end Ln
end Go.Proofs.Ytiokjjadpobciaa.P
