import Derived.Test.YtiokjjadpobciaaRf1
namespace Go.Proofs.Ytiokjjadpobciaa.P
open Go.RowKit Go.Conc Go.Proofs.YtiokjjadpobciaaW.PrintWords Go.Proofs.YtiokjjadpobciaaW.PrintLast Go.Proofs.YtiokjjadpobciaaW.PrintMore
attribute [local go_sem] max2_int min2_int max_two min_two max_three min_three max_four min_four
set_option linter.unusedVariables false
set_option linter.unusedSimpArgs false
namespace Ln
def rfrom.T4 : Bool × List (List Nat × List Nat) := (true, [([], []), ([0], [0]), ([1], [1]), ([2], [2]), ([], []), ([], []), ([5], [5]), ([6], [6]), ([7], [7]), ([], []), ([8, 9], [8, 9]), ([10], [10]), ([11], [11]), ([3, 4, 0, 1, 2, 3, 4, 5, 6, 7, 8, 9, 10, 11, 12], [3, 4]), ([13, 12, 0, 1, 2, 3, 4, 5, 6, 7, 8, 9, 10, 11, 12], [12, 13])])
def rfrom.B4 : List Nat := [0, 1, 3, 7, 0, 0, 32, 96, 224, 0, 992, 2016, 4064, 8191, 16383]
theorem rfrom.tab4 : rtab .any (opsOf Try.f29 4) = rfrom.T4 := by kernel_rfl
theorem rfrom.bits4 : waitsOk rfrom.T4.2 rfrom.B4 = true := by kernel_rfl
theorem cut1 (b o c k : Nat) (hk : k + 1 ≤ c) : ∃ T, T = (if c = 1 then some (⟨b, o, none⟩ : Addr) else (some (⟨b, o, none⟩ : Addr)).map (·.add 1)) ∧ ∀ W : World, (Instr.slice 27 (.slice (some ⟨b, o, none⟩) (k + 1) c) (some (.int .i64 1)) none none).run Try.prog W = .ok (.slice T k (c - 1)) W := by
  obtain ⟨i, hi, hz⟩ := Option.map_eq_some_iff.1 info2
  simp only [Prod.mk.injEq] at hz
  refine ⟨_, rfl, fun W => ?_⟩
  have := cut_from (P := Try.prog) 27 2 .i64 Try.underlying27 hi 1 hz.2.1 (some ⟨b, o, none⟩) (k + 1) c 1 (by omega) (by omega) W
  rw [this]
  simp
set_option maxHeartbeats 8000000 in
set_option maxRecDepth 100000 in
theorem RFrom_some.calls (B h m room : Nat) (L : List (List Int)) (n : Nat) (x : Int) (q : List Int) (w0 w : World) (hB : Below B w0 w) (hBm : B ≤ m) (hR : RfP h m room L w) (hn : n < L.length) (hq : L.getD n [] = x :: q) :
    Calls Try.prog 29 #[.pointer (some ⟨h, 0, none⟩), .int .i64 n] w fun e w' => e = .returned (.tuple #[.int .i64 x, .bool true]) ∧ RPost B h m room (L.set n q) w0 w w' := by
  have HP := Aside0.mk hR
  obtain ⟨vs, hS⟩ := hR
  obtain ⟨hc0, hc1⟩ := hS.cell
  have HS := Aside0.mk hS
  have HB := Aside0.mk hB
  clear hS hB
  have hl : lane L n = true := by simp [lane]; omega
  obtain ⟨v, hv, hcm, hrw⟩ := HS.out.at hn
  rw [hq] at hrw
  obtain ⟨b, o, c, rfl, hc, hmx, f0, htl⟩ := hrw.cons
  obtain ⟨T, hT, hcut⟩ := cut1 b o c q.length hc
  have b1 : (0 : Int) ≤ (n : Int) := by omega
  have b2 : (n : Int) < (L.length : Int) := by omega
  have b3 : (0 : Int) < (q.length : Int) + 1 := by omega
  have b4 : ((q.length : Int) + 1 == 0) = false := by simp; omega
  rw [← hT] at htl
  have HV := Aside0.mk htl
  clear hv hT htl hmx
  go_enter Try.func29, Try.ntmps29
  go_wp2_with fail
  refine (Has.calls h m room L _ _ HP.out).mono ?_
  rintro e w1 ⟨rfl, rfl⟩
  rw [hl]
  go_wp2_with fail
  have HS2 := Aside0.mk (HS.out.below (below_drew1 (Below.refl _ _)))
  have HB2 := Aside0.mk (below_drew1 HB.out)
  have HV2 := Aside0.mk (show Rw (World.drew w1) (.slice T q.length (c - 1)) q from HV.out.move (fun k cells hk => rfl))
  have HF2 := Aside0.mk (Far.below (below_drew1 (Below.refl _ w1)) (fun k => k = m))
  have hcm2 : (World.drew w1).cell? ⟨m, n, none⟩ = some (.slice (some ⟨b, o, none⟩) (q.length + 1) c) := hcm
  have hfm2 := blk_frozen HS2.out.mb n
  clear HS HB HV hcm f0 hc0 hc1 HP
  refine start_ (n := 15) (S := fun w' => w'.cell? ⟨h, 1, none⟩ = some (.slice (some ⟨m, 0, none⟩) L.length L.length) ∧ w'.cell? ⟨m, n, none⟩ = some (.slice (some ⟨b, o, none⟩) (q.length + 1) c)) (ds := [14]) #[false, false, false, false, false, false, false, false, false, false, false, false, false, false, false] (by kernel_rfl) rfl rfl ⟨HS2.out.cell.2, hcm2⟩ (fun hHeld => ?_)
  refine with_tabW rfrom.tab4 rfrom.bits4 (fun HT_ HW_ => ?_)
  generalize hW : w1.drew = W at HS2 HB2 HV2 HF2 hcm2 hfm2 hHeld ⊢
  clear hW
  refine pure_ (i := 0) (N := some 31) (v := ?_) (a' := ?_) #[true, false, false, false, false, false, false, false, false, false, false, false, false, false, false] rfl rfl (any_of HT_.out (by kernel_rfl)) (fun _ _ _ h => h) (Or.inl ⟨by rfl, ?_⟩) ?_ ?_
  rotate_left
  · intro w'
    go_simp
    with_reducible rfl
  rotate_left
  · simp only [Act.put, List.setIfInBounds_toArray, List.set_cons_zero, List.set_cons_succ, i64_w, i32_w]
    rfl
  refine pure_ (i := 1) (N := some 32) (v := ?_) (a' := ?_) #[true, true, false, false, false, false, false, false, false, false, false, false, false, false, false] rfl rfl (any_of HT_.out (by kernel_rfl)) (fun _ _ _ h => h) (Or.inl ⟨by rfl, ?_⟩) ?_ ?_
  rotate_left
  · intro w'
    go_simp
    with_reducible rfl
  rotate_left
  · simp only [Act.put, List.setIfInBounds_toArray, List.set_cons_zero, List.set_cons_succ, i64_w, i32_w]
    rfl
  refine pure_ (i := 2) (N := some 33) (v := ?_) (a' := ?_) #[true, true, true, false, false, false, false, false, false, false, false, false, false, false, false] rfl rfl (any_of HT_.out (by kernel_rfl)) (fun _ _ _ h => h) (Or.inl ⟨by rfl, ?_⟩) ?_ ?_
  rotate_left
  · intro w'
    go_simp
    with_reducible rfl
  rotate_left
  · simp only [Act.put, List.setIfInBounds_toArray, List.set_cons_zero, List.set_cons_succ, i64_w, i32_w]
    rfl
  refine pure_ (i := 4) (N := some 35) (v := ?_) (a' := ?_) #[true, true, true, false, true, false, false, false, false, false, false, false, false, false, false] rfl rfl (any_of HT_.out (by kernel_rfl)) (fun _ _ _ h => h) (Or.inl ⟨by rfl, ?_⟩) ?_ ?_
  rotate_left
  · intro w'
    go_simp
    with_reducible rfl
  rotate_left
  · simp only [Act.put, List.setIfInBounds_toArray, List.set_cons_zero, List.set_cons_succ, i64_w, i32_w]
    rfl
  refine pure_ (i := 5) (N := some 36) (v := ?_) (a' := ?_) #[true, true, true, false, true, true, false, false, false, false, false, false, false, false, false] rfl rfl (any_of HT_.out (by kernel_rfl)) (fun _ _ _ h => h) (Or.inl ⟨by rfl, ?_⟩) ?_ ?_
  rotate_left
  · intro w'
    go_simp
    with_reducible rfl
  rotate_left
  · simp only [Act.put, List.setIfInBounds_toArray, List.set_cons_zero, List.set_cons_succ, i64_w, i32_w]
    rfl
  refine pure_ (i := 6) (N := some 37) (v := ?_) (a' := ?_) #[true, true, true, false, true, true, true, false, false, false, false, false, false, false, false] rfl rfl (any_of HT_.out (by kernel_rfl)) (fun _ _ _ h => h) (Or.inl ⟨by rfl, ?_⟩) ?_ ?_
  rotate_left
  · intro w'
    go_simp
    with_reducible rfl
  rotate_left
  · simp only [Act.put, List.setIfInBounds_toArray, List.set_cons_zero, List.set_cons_succ, i64_w, i32_w]
    rfl
  refine pure_ (i := 7) (N := some 38) (v := ?_) (a' := ?_) #[true, true, true, false, true, true, true, true, false, false, false, false, false, false, false] rfl rfl (any_of HT_.out (by kernel_rfl)) (fun _ _ _ h => h) (Or.inl ⟨by rfl, ?_⟩) ?_ ?_
  rotate_left
  · intro w'
    go_simp
    with_reducible rfl
  rotate_left
  · simp only [Act.put, List.setIfInBounds_toArray, List.set_cons_zero, List.set_cons_succ, i64_w, i32_w]
    rfl
  refine pure_ (i := 9) (N := some 40) (v := ?_) (a' := ?_) #[true, true, true, false, true, true, true, true, false, true, false, false, false, false, false] rfl rfl (any_of HT_.out (by kernel_rfl)) (fun _ _ _ h => h) (Or.inl ⟨by rfl, ?_⟩) ?_ ?_
  rotate_left
  · intro w'
    go_simp
    with_reducible rfl
  rotate_left
  · simp only [Act.put, List.setIfInBounds_toArray, List.set_cons_zero, List.set_cons_succ, i64_w, i32_w]
    rfl
  refine take_ (i := 3) (N := some 34) (v := ?_) (a' := ?_) #[true, true, true, true, true, true, true, true, false, true, false, false, false, false, false] rfl rfl (take_ofW HT_.out HW_.out (by kernel_rfl)) (fun _ _ _ h => h) (Or.inl ⟨by rfl, ?_⟩) hHeld ?_ ?_
  rotate_left
  · rintro w' ⟨s0, s1⟩
    go_simp
    with_reducible rfl
  rotate_left
  · simp only [Act.put, List.setIfInBounds_toArray, List.set_cons_zero, List.set_cons_succ, i64_w, i32_w]
    rfl
  refine take_ (i := 8) (N := some 39) (v := ?_) (a' := ?_) #[true, true, true, true, true, true, true, true, true, true, false, false, false, false, false] rfl rfl (take_ofW HT_.out HW_.out (by kernel_rfl)) (fun _ _ _ h => h) (Or.inl ⟨by rfl, ?_⟩) hHeld ?_ ?_
  rotate_left
  · rintro w' ⟨s0, s1⟩
    go_simp
    with_reducible rfl
  rotate_left
  · simp only [Act.put, List.setIfInBounds_toArray, List.set_cons_zero, List.set_cons_succ, i64_w, i32_w]
    rfl
  refine pure_ (i := 10) (N := some 41) (v := ?_) (a' := ?_) #[true, true, true, true, true, true, true, true, true, true, true, false, false, false, false] rfl rfl (any_of HT_.out (by kernel_rfl)) (fun _ _ _ h => h) (Or.inl ⟨by rfl, ?_⟩) ?_ ?_
  rotate_left
  · intro w'
    go_simp
    with_reducible rfl
  rotate_left
  · simp only [Act.put, List.setIfInBounds_toArray, List.set_cons_zero, List.set_cons_succ, i64_w, i32_w]
    rfl
  refine take_ (i := 11) (N := some 42) (v := ?_) (a' := ?_) #[true, true, true, true, true, true, true, true, true, true, true, true, false, false, false] rfl rfl (take_ofW HT_.out HW_.out (by kernel_rfl)) (fun _ _ _ h => h) (Or.inl ⟨by rfl, ?_⟩) hHeld ?_ ?_
  rotate_left
  · rintro w' ⟨s0, s1⟩
    go_simp
    with_reducible rfl
  rotate_left
  · simp only [Act.put, List.setIfInBounds_toArray, List.set_cons_zero, List.set_cons_succ, i64_w, i32_w]
    rfl
  refine pure_ (i := 12) (N := some 43) (v := ?_) (a' := ?_) #[true, true, true, true, true, true, true, true, true, true, true, true, true, false, false] rfl rfl (any_of HT_.out (by kernel_rfl)) (fun _ _ _ h => h) (Or.inl ⟨by rfl, ?_⟩) ?_ ?_
  rotate_left
  · intro w'
    go_simp
    with_reducible rfl
  rotate_left
  · simp only [Act.put, List.setIfInBounds_toArray, List.set_cons_zero, List.set_cons_succ, i64_w, i32_w]
    rfl
  refine pure_ (i := 13) (N := some 44) (v := ?_) (a' := ?_) #[true, true, true, true, true, true, true, true, true, true, true, true, true, true, false] rfl rfl (any_of HT_.out (by kernel_rfl)) (fun _ _ _ h => h) (Or.inl ⟨by rfl, ?_⟩) ?_ ?_
  rotate_left
  · intro w'
    go_simp
    with_reducible rfl
  rotate_left
  · simp only [Act.put, List.setIfInBounds_toArray, List.set_cons_zero, List.set_cons_succ, i64_w, i32_w]
    rfl
  refine last_ (i := 14) (N := none) #[true, true, true, true, true, true, true, true, true, true, true, true, true, true, true] rfl rfl (by kernel_rfl) (by decide) (fun K hK => ?_)
  refine skip_ (w1 := ?_) (by rfl) rfl ?_ ?_
  rotate_left
  · go_simp
    rfl
  refine hK.out _ _ ?_
  clear hK K
  refine done_ (done_of HT_.out (by kernel_rfl)) ?_

  go_wp2
  go_ret2
  exact ⟨rfl, ⟨_, HS2.out.put hn HV2.out⟩, HB2.out.setCell (p := ⟨m, n, none⟩) hBm _, HF2.out.trans (show Far _ _ (fun k => k = m) from ⟨rfl, rfl, rfl, by simp, fun k hk hs => Below.heap_setCell _ ⟨m, n, none⟩ _ k hs⟩) (fun _ _ h => h)⟩
set_option maxHeartbeats 8000000 in
set_option maxRecDepth 100000 in
theorem RFrom_empty.calls (B h m room : Nat) (L : List (List Int)) (n : Nat) (w : World) (hR : RfP h m room L w) (hn : n < L.length) (hq : L.getD n [] = []) :
    Calls Try.prog 29 #[.pointer (some ⟨h, 0, none⟩), .int .i64 n] w fun e w' => e = .returned (.tuple #[.int .i64 0, .bool false]) ∧ w' = w := by
  have HP := Aside0.mk hR
  obtain ⟨vs, hS⟩ := hR
  obtain ⟨hc0, hc1⟩ := hS.cell
  have hl : lane L n = true := by simp [lane]; omega
  obtain ⟨v, hv, hcm, hrw⟩ := hS.at hn
  rw [hq] at hrw
  obtain ⟨A, c, rfl, -, -⟩ := hrw.C
  have b1 : (0 : Int) ≤ (n : Int) := by omega
  have b2 : (n : Int) < (L.length : Int) := by omega
  simp only [List.length_nil] at hcm
  clear hS hv hrw
  go_enter Try.func29, Try.ntmps29
  go_wp2_with fail
  refine (Has.calls h m room L _ _ HP.out).mono ?_
  rintro e w1 ⟨rfl, rfl⟩
  rw [hl]
  go_wp2
  go_ret2
  exact ⟨rfl, rfl⟩
set_option maxHeartbeats 8000000 in
set_option maxRecDepth 100000 in
theorem RFrom_out.calls (h m room : Nat) (L : List (List Int)) (i : Int) (w : World) (hR : RfP h m room L w) (hl : lane L i = false) :
    Calls Try.prog 29 #[.pointer (some ⟨h, 0, none⟩), .int .i64 i] w fun e w' => e = .returned (.tuple #[.int .i64 0, .bool false]) ∧ w' = w := by
  have HP := Aside0.mk hR
  clear hR
  go_enter Try.func29, Try.ntmps29
  go_wp2_with fail
  refine (Has.calls h m room L _ _ HP.out).mono ?_
  rintro e w1 ⟨rfl, rfl⟩
  rw [hl]
  go_wp2
  go_ret2
  exact ⟨rfl, rfl⟩
theorem RPost.same {B h m room : Nat} {L : List (List Int)} {w0 w : World} (hR : RfP h m room L w) (hB : Below B w0 w) : RPost B h m room L w0 w w := ⟨hR, hB, Far.refl _ _⟩
theorem RFrom.calls (B h m room : Nat) (L : List (List Int)) (i : Int) (w0 w : World) (hB : Below B w0 w) (hBm : B ≤ m) (hR : RfP h m room L w) :
    Calls Try.prog 29 #[.pointer (some ⟨h, 0, none⟩), .int .i64 i] w fun e w' => e = .returned (.tuple #[.int .i64 (fromV L i).1, .bool (fromV L i).2.1]) ∧ RPost B h m room (fromV L i).2.2 w0 w w' := by
  by_cases hl : lane L i = true
  · obtain ⟨n, rfl, hn⟩ := lane_of hl
    unfold fromV
    rw [if_pos hl]
    simp only [Int.toNat_natCast]
    cases hq : L.getD n [] with
    | nil =>
      refine (RFrom_empty.calls B h m room L n w hR hn hq).mono ?_
      rintro e w' ⟨rfl, rfl⟩
      exact ⟨rfl, RPost.same hR hB⟩
    | cons x q => exact RFrom_some.calls B h m room L n x q w0 w hB hBm hR hn hq
  · unfold fromV
    rw [if_neg hl]
    refine (RFrom_out.calls h m room L i w hR (by simpa using hl)).mono ?_
    rintro e w' ⟨rfl, rfl⟩
    exact ⟨rfl, RPost.same hR hB⟩
end Ln
end Go.Proofs.Ytiokjjadpobciaa.P
