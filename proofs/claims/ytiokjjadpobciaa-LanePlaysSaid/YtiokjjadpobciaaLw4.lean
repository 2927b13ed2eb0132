import Derived.Test.YtiokjjadpobciaaRf4
namespace Go.Proofs.Ytiokjjadpobciaa.P
open Go.RowKit Go.Conc Go.Proofs.YtiokjjadpobciaaW.PrintWords Go.Proofs.YtiokjjadpobciaaW.PrintLast Go.Proofs.YtiokjjadpobciaaW.PrintMore
attribute [local go_sem] max2_int min2_int max_two min_two max_three min_three max_four min_four
set_option linter.unusedVariables false
set_option linter.unusedSimpArgs false
/-! #### struct type 42 -/
structure S42 where
  f0 : Int
  f1 : Int
  f2 : Int
def z42 : S42 := ⟨(0 : Int), (0 : Int), (0 : Int)⟩
def k42 : Kd S42 := Kd.iso (Kd.pair (Kd.int .i64) (Kd.pair (Kd.int .i64) (Kd.int .i64))) (fun x : S42 => (x.f0, x.f1, x.f2))
theorem k42_open {w : World} {x : S42} {cs : List Value} (h : k42.K w x cs) : cs = [.int .i64 x.f0, .int .i64 x.f1, .int .i64 x.f2] := by
  obtain ⟨_, _, rfl, rfl, ⟨_, _, rfl, rfl, rfl⟩⟩ := h
  exact rfl
theorem k42_mk (w : World) (x : S42) : k42.K w x [.int .i64 x.f0, .int .i64 x.f1, .int .i64 x.f2] := ⟨[.int .i64 x.f0], [.int .i64 x.f1, .int .i64 x.f2], rfl, rfl, ⟨[.int .i64 x.f1], [.int .i64 x.f2], rfl, rfl, rfl⟩⟩
def rd_T42 (xs : List S42) (i : Int) : S42 := xs.getD i.toNat z42
theorem add_field42 (ad : Addr) (n k : Nat) (hk : 0 < k) : ad.add (n + k) = ⟨(ad.add n).block, (ad.add n).off + k, none⟩ := by
  first | exact (add_field ad n k hk).symm | exact add_field ad n k hk | (obtain ⟨b, o, s⟩ := ad; cases s <;> simp [Addr.add] <;> omega)
theorem at42 {w : World} {ad : Addr} {l : List S42} (h : Kd.C k42 w (some ad) l.length l) (i : Nat) (d : i < l.length) : w.cell? (ad.add (i * 3)) = some (.int .i64 l[i].f0) ∧ w.cell? ⟨(ad.add (i * 3)).block, (ad.add (i * 3)).off + 1, none⟩ = some (.int .i64 l[i].f1) ∧ w.cell? ⟨(ad.add (i * 3)).block, (ad.add (i * 3)).off + 2, none⟩ = some (.int .i64 l[i].f2) := by
  obtain ⟨ad', c, e, _, hK, hc0⟩ := Kd.C_get h z42 (i : Int) (by omega) (by omega)
  obtain rfl := Option.some.inj e
  have hc : ∀ j u, c[j]? = some u → w.cell? (ad.add (i * 3 + j)) = some u := hc0
  obtain rfl := k42_open hK
  have e : l.getD (i : Int).toNat z42 = l[i] := by simp [List.getD_eq_getElem?_getD, d]
  rw [e] at hc
  exact ⟨hc 0 _ rfl, by rw [← add_field42 _ _ 1 (by omega)]; exact hc 1 _ rfl, by rw [← add_field42 _ _ 2 (by omega)]; exact hc 2 _ rfl⟩
namespace Ln
def lplay.T16 : Bool × List (List Nat × List Nat) := (true, [([], []), ([0], [0]), ([1], [1]), ([2], [2]), ([], []), ([], []), ([4, 5], [4, 5]), ([6], [6]), ([7], [7]), ([3, 8], [3, 8]), ([9], [9]), ([10], [10]), ([11, 0, 1, 2, 3, 4, 5, 6, 7, 8, 9, 10, 11], [11])])
def lplay.B16 : List Nat := [0, 1, 3, 7, 0, 0, 48, 112, 240, 511, 1023, 2047, 4095]
theorem lplay.tab16 : rtab .any (opsOf Try.f5 16) = lplay.T16 := by kernel_rfl
theorem lplay.bits16 : waitsOk lplay.T16.2 lplay.B16 = true := by kernel_rfl
set_option maxHeartbeats 8000000 in
set_option maxRecDepth 100000 in
theorem LanePlays_ok.calls (A : Option Addr) (c : Nat) (l : List S42) (m rr : Nat) (w : World) (hC : Kd.C k42 w A l.length l) (hc : l.length ≤ c) (hm : 1 ≤ m ∧ m ≤ 8 ∧ 1 ≤ rr ∧ rr ≤ 64) (hl : l.length ≤ 150) :
    Calls Try.prog 5 #[.int .i64 m, .int .i64 rr, .slice A l.length c] w fun e w' => e = .returned (.bool true) ∧ Below w.heap.size w w' := by
  have HC := Aside0.mk hC
  have dlen : decide ((l.length : Int) > 150) = false := decide_eq_false (by omega)
  have dlen2 : decide (150 < (l.length : Int)) = false := decide_eq_false (by omega)
  clear hC
  go_enter Try.func5, Try.ntmps5
  go_wp2_with fail
  refine (New_ok.calls m rr w hm).mono ?_
  rintro e w1 ⟨g, rfl, hg, hL, hb⟩
  have HL := Aside0.mk hL
  have HB := Aside0.mk hb
  clear hL hb
  go_wp2_with fail
  refine (RNew_ok.calls m rr w1 hm).mono ?_
  rintro e w2 ⟨h, b, rfl, hbb, hR, hb⟩
  have HL1 := Aside0.mk (HL.out.below hb)
  have HR1 := Aside0.mk hR
  have HB1 := Aside0.mk (below_step HB.out hb)
  have hbw : w.heap.size ≤ b := Nat.le_trans HB.out.size hbb
  clear hR hb HL HB dlen dlen2
  go_wp2
  go_loopw [11, 12] (fun x11 x12 wr => ∃ (i : Nat) (L : List (List Int)), x11 = .int .i64 i ∧ i ≤ l.length ∧ Aside0 (L.length = m) ∧ Aside0 (LnP w.heap.size g rr L wr) ∧ Aside0 (RfP h b rr L wr) ∧ Aside0 (Below w.heap.size w wr)) (fun x11 _ _ => l.length - (intOf x11).toNat)
  case atStart => exact ⟨0, _, rfl, by omega, ⟨by simp⟩, HL1, HR1, HB1⟩
  case round =>
    clear HL1 HR1 HB1
    obtain ⟨i, L, rfl, hi, hLm, HL, HR, HB⟩ := hrel
    by_cases d : i < l.length
    · have dl : decide ((i : Int) < (l.length : Int)) = true := decide_eq_true (by omega)
      have b1 : (0 : Int) ≤ (i : Int) := by omega
      have b2 : (i : Int) < (l.length : Int) := by omega
      have hw : wrap64 ((i : Int) + 1) = ((i + 1 : Nat) : Int) := by unfold wrap64; omega
      obtain ⟨ad, cc, rfl, -⟩ := Kd.C_get HC.out z42 (i : Int) b1 b2
      obtain ⟨f0, f1, f2⟩ := at42 (Kd.C_below HC.out HB.out) i d
      go_wp2_with fail
      clear f0 f1 f2
      refine (act.calls w.heap.size g h b rr L _ _ _ w _ HB.out HB.out.size hbw HL.out HR.out hm.2.2.2 (by have := hLm.out; omega)).mono ?_
      rintro e w2 ⟨rfl, L', hL', hl2, hr2, hb2⟩
      have HL2 := Aside0.mk hl2
      have HR2 := Aside0.mk hr2
      have HB2 := Aside0.mk hb2
      have hLm2 := Aside0.mk (hL'.trans hLm.out)
      obtain ⟨f0, f1, f2⟩ := at42 (Kd.C_below HC.out hb2) i d
      clear hl2 hr2 hb2 HL HR HB hL' hLm
      go_wp2_with fail
      refine (Has.calls h b rr L' _ _ HR2.out).mono ?_
      rintro e w3 ⟨rfl, rfl⟩
      by_cases hln : lane L' l[i].f1 = true
      · rw [hln]
        obtain ⟨n, hn, hnl⟩ := lane_of hln
        rw [hn] at f1
        clear f0 f2
        have b3 : (0 : Int) ≤ (n : Int) := by omega
        have b4 : (n : Int) < (L'.length : Int) := by omega
        obtain ⟨qn, hqn⟩ : ∃ qn, (L'.getD n []).length = qn := ⟨_, rfl⟩
        have hlen : lenV L' (n : Int) = (qn : Int) := by rw [hn] at hln; unfold lenV; rw [if_pos hln, Int.toNat_natCast, hqn]
        have hnn : ((qn : Int) != (qn : Int)) = false := by simp
        have HQ := Aside0.mk hqn
        clear hqn
        go_wp2_with fail
        have HL3 := Aside0.mk (HL2.out.below (below_drew1 (Below.refl _ w3)))
        have HR3 := Aside0.mk (HR2.out.below (below_drew1 (Below.refl _ w3)))
        have HB3 := Aside0.mk (below_drew1 HB2.out)
        have hf3 : (World.drew w3).cell? ⟨(ad.add (i * 3)).block, (ad.add (i * 3)).off + 1, none⟩ = some (.int .i64 n) := f1
        clear HL2 HR2 HB2 f1
        have HL2 := HL3
        have HR2 := HR3
        have HB2 := HB3
        have hf2 := hf3
        clear HL3 HR3 HB3 hf3
        obtain ⟨vs, hS⟩ := HR2.out
        obtain ⟨v, hv, hcm2, hrw⟩ := hS.at hnl
        obtain ⟨A2, c2, rfl, -, -⟩ := hrw.C
        rw [HQ.out] at hcm2
        have HS2 := Aside0.mk hS
        clear hS hv hrw
        refine start_ (n := 13) (S := fun w' => w'.cell? ⟨h, 1, none⟩ = some (.slice (some ⟨b, 0, none⟩) L'.length L'.length) ∧ w'.cell? ⟨b, n, none⟩ = some (.slice A2 qn c2) ∧ w'.cell? ⟨(ad.add (i * 3)).block, (ad.add (i * 3)).off + 1, none⟩ = some (.int .i64 n)) (ds := []) #[false, false, false, false, false, false, false, false, false, false, false, false, false] (by kernel_rfl) rfl rfl ⟨HS2.out.cell.2, hcm2, hf2⟩ (fun hHeld => ?_)
        refine with_tabW lplay.tab16 lplay.bits16 (fun HT_ HW_ => ?_)
        generalize hW : w3.drew = W at HL2 HR2 HB2 HS2 hcm2 hf2 hHeld ⊢
        clear hW
        refine pure_ (i := 0) (N := some 60) (v := ?_) (a' := ?_) #[true, false, false, false, false, false, false, false, false, false, false, false, false] rfl rfl (any_of HT_.out (by kernel_rfl)) (fun _ _ _ h => h) (Or.inl ⟨by rfl, ?_⟩) ?_ ?_
        rotate_left
        · intro w'
          go_simp
          with_reducible rfl
        rotate_left
        · simp only [Act.put, List.setIfInBounds_toArray, List.set_cons_zero, List.set_cons_succ, i64_w, i32_w]
          rfl
        refine pure_ (i := 1) (N := some 61) (v := ?_) (a' := ?_) #[true, true, false, false, false, false, false, false, false, false, false, false, false] rfl rfl (any_of HT_.out (by kernel_rfl)) (fun _ _ _ h => h) (Or.inl ⟨by rfl, ?_⟩) ?_ ?_
        rotate_left
        · intro w'
          go_simp
          with_reducible rfl
        rotate_left
        · simp only [Act.put, List.setIfInBounds_toArray, List.set_cons_zero, List.set_cons_succ, i64_w, i32_w]
          rfl
        refine pure_ (i := 2) (N := some 62) (v := ?_) (a' := ?_) #[true, true, true, false, false, false, false, false, false, false, false, false, false] rfl rfl (any_of HT_.out (by kernel_rfl)) (fun _ _ _ h => h) (Or.inl ⟨by rfl, ?_⟩) ?_ ?_
        rotate_left
        · intro w'
          go_simp
          with_reducible rfl
        rotate_left
        · simp only [Act.put, List.setIfInBounds_toArray, List.set_cons_zero, List.set_cons_succ, i64_w, i32_w]
          rfl
        refine pure_ (i := 4) (N := some 64) (v := ?_) (a' := ?_) #[true, true, true, false, true, false, false, false, false, false, false, false, false] rfl rfl (any_of HT_.out (by kernel_rfl)) (fun _ _ _ h => h) (Or.inl ⟨by rfl, ?_⟩) ?_ ?_
        rotate_left
        · intro w'
          go_simp
          with_reducible rfl
        rotate_left
        · simp only [Act.put, List.setIfInBounds_toArray, List.set_cons_zero, List.set_cons_succ, i64_w, i32_w]
          rfl
        refine pure_ (i := 5) (N := some 65) (v := ?_) (a' := ?_) #[true, true, true, false, true, true, false, false, false, false, false, false, false] rfl rfl (any_of HT_.out (by kernel_rfl)) (fun _ _ _ h => h) (Or.inl ⟨by rfl, ?_⟩) ?_ ?_
        rotate_left
        · intro w'
          go_simp
          with_reducible rfl
        rotate_left
        · simp only [Act.put, List.setIfInBounds_toArray, List.set_cons_zero, List.set_cons_succ, i64_w, i32_w]
          rfl
        refine pure_ (i := 6) (N := some 66) (v := ?_) (a' := ?_) #[true, true, true, false, true, true, true, false, false, false, false, false, false] rfl rfl (any_of HT_.out (by kernel_rfl)) (fun _ _ _ h => h) (Or.inl ⟨by rfl, ?_⟩) ?_ ?_
        rotate_left
        · intro w'
          go_simp
          with_reducible rfl
        rotate_left
        · simp only [Act.put, List.setIfInBounds_toArray, List.set_cons_zero, List.set_cons_succ, i64_w, i32_w]
          rfl
        refine pure_ (i := 7) (N := some 67) (v := ?_) (a' := ?_) #[true, true, true, false, true, true, true, true, false, false, false, false, false] rfl rfl (any_of HT_.out (by kernel_rfl)) (fun _ _ _ h => h) (Or.inl ⟨by rfl, ?_⟩) ?_ ?_
        rotate_left
        · intro w'
          go_simp
          with_reducible rfl
        rotate_left
        · simp only [Act.put, List.setIfInBounds_toArray, List.set_cons_zero, List.set_cons_succ, i64_w, i32_w]
          rfl
        refine take_ (i := 3) (N := some 63) (v := ?_) (a' := ?_) #[true, true, true, true, true, true, true, true, false, false, false, false, false] rfl rfl (take_ofW HT_.out HW_.out (by kernel_rfl)) (fun _ _ _ h => h) (Or.inl ⟨by rfl, ?_⟩) hHeld ?_ ?_
        rotate_left
        · rintro w' ⟨s0, s1, s2⟩
          go_simp
          with_reducible rfl
        rotate_left
        · simp only [Act.put, List.setIfInBounds_toArray, List.set_cons_zero, List.set_cons_succ, i64_w, i32_w]
          rfl
        refine take_ (i := 8) (N := some 68) (v := ?_) (a' := ?_) #[true, true, true, true, true, true, true, true, true, false, false, false, false] rfl rfl (take_ofW HT_.out HW_.out (by kernel_rfl)) (fun _ _ _ h => h) (Or.inl ⟨by rfl, ?_⟩) hHeld ?_ ?_
        rotate_left
        · rintro w' ⟨s0, s1, s2⟩
          go_simp
          with_reducible rfl
        rotate_left
        · simp only [Act.put, List.setIfInBounds_toArray, List.set_cons_zero, List.set_cons_succ, i64_w, i32_w]
          rfl
        refine pure_ (i := 9) (N := some 69) (v := ?_) (a' := ?_) #[true, true, true, true, true, true, true, true, true, true, false, false, false] rfl rfl (any_of HT_.out (by kernel_rfl)) (fun _ _ _ h => h) (Or.inl ⟨by rfl, ?_⟩) ?_ ?_
        rotate_left
        · intro w'
          go_simp
          with_reducible rfl
        rotate_left
        · simp only [Act.put, List.setIfInBounds_toArray, List.set_cons_zero, List.set_cons_succ, i64_w, i32_w]
          rfl
        refine take_ (i := 10) (N := some 70) (v := ?_) (a' := ?_) #[true, true, true, true, true, true, true, true, true, true, true, false, false] rfl rfl (take_ofW HT_.out HW_.out (by kernel_rfl)) (fun _ _ _ h => h) (Or.inl ⟨by rfl, ?_⟩) hHeld ?_ ?_
        rotate_left
        · rintro w' ⟨s0, s1, s2⟩
          go_simp
          with_reducible rfl
        rotate_left
        · simp only [Act.put, List.setIfInBounds_toArray, List.set_cons_zero, List.set_cons_succ, i64_w, i32_w]
          rfl
        refine pure_ (i := 11) (N := some 71) (v := ?_) (a' := ?_) #[true, true, true, true, true, true, true, true, true, true, true, true, false] rfl rfl (any_of HT_.out (by kernel_rfl)) (fun _ _ _ h => h) (Or.inl ⟨by rfl, ?_⟩) ?_ ?_
        rotate_left
        · intro w'
          go_simp
          with_reducible rfl
        rotate_left
        · simp only [Act.put, List.setIfInBounds_toArray, List.set_cons_zero, List.set_cons_succ, i64_w, i32_w]
          rfl
        refine pure_ (i := 12) (N := some 12) (v := ?_) (a' := ?_) #[true, true, true, true, true, true, true, true, true, true, true, true, true] rfl rfl (any_of HT_.out (by kernel_rfl)) (fun _ _ _ h => h) (Or.inl ⟨by rfl, ?_⟩) ?_ ?_
        rotate_left
        · intro w'
          go_simp
          with_reducible rfl
        rotate_left
        · simp only [Act.put, List.setIfInBounds_toArray, List.set_cons_zero, List.set_cons_succ, i64_w, i32_w]
          rfl
        refine done_ (done_of HT_.out (by kernel_rfl)) ?_

        clear hHeld HS2 hcm2
        have f1 := hf2
        clear hf2
        go_wp2_with fail
        refine (Len.calls w.heap.size g rr L' _ _ HL2.out).mono ?_
        rw [hlen]
        rintro e w4 ⟨rfl, rfl⟩
        clear f1 hlen
        go_wp2
        go_roundw
        case rel => exact ⟨i + 1, L', rfl, d, hLm2, HL2, HR2, HB2⟩
        case measure => simp only [intOf]; omega
      · have hln2 : lane L' l[i].f1 = false := by simpa using hln
        rw [hln2]
        have hlen : lenV L' l[i].f1 = 0 := by unfold lenV; rw [if_neg hln]
        clear f0 f2
        go_wp2_with fail
        refine (Len.calls w.heap.size g rr L' _ _ HL2.out).mono ?_
        rw [hlen]
        rintro e w4 ⟨rfl, rfl⟩
        clear f1 hlen
        go_wp2
        go_roundw
        case rel => exact ⟨i + 1, L', rfl, d, hLm2, HL2, HR2, HB2⟩
        case measure => simp only [intOf]; omega
    · have dl : decide ((i : Int) < (l.length : Int)) = false := decide_eq_false (by omega)
      go_wp2_with fail
      refine (alive.calls _).mono ?_
      rintro e wa ⟨rfl, hb⟩
      have HBa := Aside0.mk (below_step HB.out hb)
      clear hb
      go_wp2
      go_ret
      exact ⟨rfl, HBa.out⟩
set_option maxHeartbeats 8000000 in
set_option maxRecDepth 100000 in
theorem LanePlays_bad.calls (A : Option Addr) (c : Nat) (l : List S42) (m rr : Int) (w : World) (hm : ¬ (1 ≤ m ∧ m ≤ 8 ∧ 1 ≤ rr ∧ rr ≤ 64)) (hl : l.length ≤ 150) :
    Calls Try.prog 5 #[.int .i64 m, .int .i64 rr, .slice A l.length c] w fun e w' => e = .returned (.bool true) ∧ Below w.heap.size w w' := by
  have dlen : decide ((l.length : Int) > 150) = false := decide_eq_false (by omega)
  have dlen2 : decide (150 < (l.length : Int)) = false := decide_eq_false (by omega)
  go_enter Try.func5, Try.ntmps5
  go_wp2_with fail
  refine (New_bad.calls m rr w hm).mono ?_
  rintro e w1 ⟨rfl, rfl⟩
  go_wp2_with fail
  refine (RNew_bad.calls m rr _ hm).mono ?_
  rintro e w2 ⟨rfl, rfl⟩
  go_wp2_with fail
  refine (alive.calls _).mono ?_
  rintro e wa ⟨rfl, hb⟩
  have HBa := Aside0.mk hb
  clear hb
  go_wp2
  go_ret
  exact ⟨rfl, HBa.out⟩
set_option maxHeartbeats 8000000 in
set_option maxRecDepth 100000 in
theorem LanePlays_long.calls (A : Option Addr) (c : Nat) (l : List S42) (m rr : Int) (w : World) (hl : ¬ l.length ≤ 150) :
    Calls Try.prog 5 #[.int .i64 m, .int .i64 rr, .slice A l.length c] w fun e w' => e = .returned (.bool true) ∧ Below w.heap.size w w' := by
  have dlen : decide ((l.length : Int) > 150) = true := decide_eq_true (by omega)
  have dlen2 : decide (150 < (l.length : Int)) = true := decide_eq_true (by omega)
  go_enter Try.func5, Try.ntmps5
  go_wp2_with fail
  refine (alive.calls _).mono ?_
  rintro e wa ⟨rfl, hb⟩
  have HBa := Aside0.mk hb
  clear hb
  go_wp2
  go_ret
  exact ⟨rfl, HBa.out⟩
end Ln
def ossuarylaw08_LanePlays.f (m rr : Int) (l : List S42) : Option Bool := some true
open Ln in
theorem ossuarylaw08_LanePlays.calls (m rr : Int) (A : Option Addr) (c : Nat) (l : List S42) (r : Bool) (w : World) (hC : Kd.C k42 w A l.length l) (hc : l.length ≤ c) (h : ossuarylaw08_LanePlays.f m rr l = some r) :
    Calls Try.prog 5 #[.int .i64 m, .int .i64 rr, .slice A l.length c] w fun e w' => e = .returned (.bool r) ∧ Below w.heap.size w w' := by
  obtain rfl := Option.some.inj h
  by_cases hl : l.length ≤ 150
  · by_cases hm : 1 ≤ m ∧ m ≤ 8 ∧ 1 ≤ rr ∧ rr ≤ 64
    · obtain ⟨m', rfl⟩ : ∃ m' : Nat, m = m' := ⟨m.toNat, by omega⟩
      obtain ⟨r', rfl⟩ : ∃ r' : Nat, rr = r' := ⟨rr.toNat, by omega⟩
      exact LanePlays_ok.calls A c l m' r' w hC hc (by omega) hl
    · exact LanePlays_bad.calls A c l m rr w hm hl
  · exact LanePlays_long.calls A c l m rr w hl
end Go.Proofs.Ytiokjjadpobciaa.P
