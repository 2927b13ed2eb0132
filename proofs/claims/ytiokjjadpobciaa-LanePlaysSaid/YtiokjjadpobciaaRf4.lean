import Derived.Test.YtiokjjadpobciaaRf3
namespace Go.Proofs.Ytiokjjadpobciaa.P
open Go.RowKit Go.Conc Go.Proofs.YtiokjjadpobciaaW.PrintWords Go.Proofs.YtiokjjadpobciaaW.PrintLast Go.Proofs.YtiokjjadpobciaaW.PrintMore
attribute [local go_sem] max2_int min2_int max_two min_two max_three min_three max_four min_four
set_option linter.unusedVariables false
set_option linter.unusedSimpArgs false
namespace Ln
set_option maxHeartbeats 8000000 in
set_option maxRecDepth 100000 in
theorem RTake.calls (B h m room : Nat) (L : List (List Int)) (w0 w : World) (hB : Below B w0 w) (hBm : B ≤ m) (hR : RfP h m room L w) (hmax : L.length ≤ 9223372036854775807) :
    Calls Try.prog 28 #[.pointer (some ⟨h, 0, none⟩)] w fun e w' => e = .returned (.tuple #[.int .i64 (takeV L.length 0 L).1, .int .i64 (takeV L.length 0 L).2.1, .bool (takeV L.length 0 L).2.2.1]) ∧ RPost B h m room (takeV L.length 0 L).2.2.2 w0 w w' := by
  have HP := Aside0.mk hR
  obtain ⟨vs, hS⟩ := hR
  obtain ⟨hc0, hc1⟩ := hS.cell
  have HS := Aside0.mk hS
  have HB := Aside0.mk hB
  clear hS hB
  go_enter Try.func28, Try.ntmps28
  go_wp2
  go_loopw [5] (fun x5 wr => ∃ (i : Nat), x5 = .int .i64 i ∧ i ≤ L.length ∧ Aside0 (takeV L.length 0 L = takeV (L.length - i) i L) ∧ wr = w) (fun x5 _ => L.length - (intOf x5).toNat)
  case atStart => exact ⟨0, rfl, by omega, ⟨rfl⟩, rfl⟩
  case round =>
    obtain ⟨i, rfl, hi, HT, rfl⟩ := hrel
    by_cases d : i < L.length
    · have dl : decide ((i : Int) < (L.length : Int)) = true := decide_eq_true (by omega)
      have b1 : (0 : Int) ≤ (i : Int) := by omega
      have b2 : (i : Int) < (L.length : Int) := by omega
      have ht : takeV (L.length - i) i L = match L.getD i [] with | [] => takeV (L.length - (i + 1)) (i + 1) L | x :: q => (i, x, true, L.set i q) := by
        rw [show L.length - i = (L.length - (i + 1)) + 1 from by omega]; rfl
      have hw : wrap64 ((i : Int) + 1) = ((i + 1 : Nat) : Int) := by unfold wrap64; omega
      obtain ⟨v, hv, hcm, hrw⟩ := HS.out.at d
      cases hq : L.getD i [] with
      | nil =>
        rw [hq] at ht hrw
        obtain ⟨A, c, rfl, -, -⟩ := hrw.C
        simp only [List.length_nil] at hcm
        have HT2 := Aside0.mk (HT.out.trans ht)
        clear HT ht hv hrw
        go_wp2
        clear hcm
        go_roundw
        case rel =>
          refine ⟨i + 1, rfl, by omega, HT2, ?_⟩
          trivial
        case measure => simp only [intOf]; omega
      | cons x q =>
        rw [hq] at ht hrw
        obtain ⟨b, o, c, rfl, hcl, hmx, f0, htl⟩ := hrw.cons
        have HT2 := Aside0.mk (HT.out.trans ht)
        have b4 : decide ((q.length : Int) + 1 > 0) = true := decide_eq_true (by omega)
        have b5 : decide (0 < (q.length : Int) + 1) = true := decide_eq_true (by omega)
        clear HT ht hv hrw f0 htl
        go_wp2_with fail
        refine (RFrom_some.calls B h m room L i x q w0 _ HB.out hBm HP.out d hq).mono ?_
        rintro e w' ⟨rfl, hp⟩
        have HQ := Aside0.mk hp
        clear hp hcm hc0 hc1
        go_wp2
        go_ret3
        rw [HT2.out]
        exact ⟨rfl, HQ.out⟩
    · have dl : decide ((i : Int) < (L.length : Int)) = false := decide_eq_false (by omega)
      have him : i = L.length := by omega
      subst him
      go_wp2
      go_ret3
      rw [HT.out, Nat.sub_self]
      exact ⟨rfl, RPost.same HP.out HB.out⟩
theorem Drain.calls (B g room : Nat) (L : List (List Int)) (i : Int) (w0 w : World) (hB : Below B w0 w) (hb : B ≤ w.heap.size) (h : LnP B g room L w) (hr : room ≤ 64) :
    Calls Try.prog 21 #[.pointer (some ⟨g, 0, none⟩), .int .i64 i] w fun e w' => ∃ v, e = .returned v ∧ Rw w' v (drainV L i).1 ∧ LPost B g room (drainV L i).2 w0 w w' := by
  obtain ⟨v, cs, h⟩ := h
  unfold drainV
  by_cases hl : lane L i = true
  · rw [if_pos hl]
    obtain ⟨n, rfl, hn⟩ := lane_of hl
    obtain ⟨c, hc⟩ := h.chan_of hn
    refine (Drain_in.calls B g room v cs L n c (L.getD n []) w0 w hB hb h hc rfl hr).mono ?_
    rintro e w' ⟨v1, rfl, hR, hp⟩
    exact ⟨v1, rfl, Rw.of_R hR, hp⟩
  · rw [if_neg hl]
    refine (Drain_out.calls B g room v cs L i w h (by have := lane_not hl; rw [h.len] at this; exact this)).mono ?_
    rintro e w' ⟨rfl, rfl⟩
    exact ⟨_, rfl, Rw.nil w', LPost.same ⟨v, cs, h⟩ hB⟩
theorem putV_len (room : Nat) (L : List (List Int)) (i x : Int) : (putV room L i x).2.length = L.length := by unfold putV; split <;> (try split) <;> simp
theorem fromV_len (L : List (List Int)) (i : Int) : (fromV L i).2.2.length = L.length := by
  unfold fromV
  split
  · split <;> simp
  · rfl
theorem takeV_len (L : List (List Int)) : ∀ d i, (takeV d i L).2.2.2.length = L.length
  | 0, _ => rfl
  | d + 1, i => by
    unfold takeV
    split
    · exact takeV_len L d (i + 1)
    · simp
theorem drainV_len (L : List (List Int)) (i : Int) : (drainV L i).2.length = L.length := by unfold drainV; split <;> simp
theorem same_self (q : List Int) : ∀ k i : Nat, q.length + 1 ≤ k + i → i ≤ q.length → q.length ≤ 9223372036854775806 → ossuaryref08_Same.l0 k q q i = some true
  | 0, i, h, hi, _ => by omega
  | k + 1, i, h, hi, hm => by
    unfold ossuaryref08_Same.l0
    by_cases d : i < q.length
    · rw [if_pos (by omega), if_pos (by omega), if_pos (by omega), if_pos rfl, show wrap64 ((i : Int) + 1) = ((i + 1 : Nat) : Int) from by unfold wrap64; omega]
      exact same_self q k (i + 1) (by omega) (by omega) hm
    · rw [if_neg (by omega)]
theorem Same_self (q : List Int) (hm : q.length ≤ 9223372036854775806) : ossuaryref08_Same.f (q.length + 1) q q = some true := by
  unfold ossuaryref08_Same.f
  rw [if_pos rfl]
  exact same_self q (q.length + 1) 0 (by omega) (by omega) hm
def act.T3 : Bool × List (List Nat × List Nat) := (true, [([], []), ([], []), ([1], [1]), ([], []), ([3], [3]), ([0, 2, 4], [0, 2, 4]), ([], []), ([], []), ([7], [7]), ([], []), ([9], [9]), ([6, 8, 10, 5], [6, 8, 10]), ([5, 11], [5, 11]), ([12, 11, 0, 1, 2, 3, 4, 5, 6, 7, 8, 9, 10, 11, 12], [12])])
def act.B3 : List Nat := [0, 0, 2, 0, 8, 31, 0, 0, 128, 0, 512, 2047, 4095, 8191]
theorem act.tab3 : rtab .any (opsOf Try.f17 3) = act.T3 := by kernel_rfl
theorem act.bits3 : waitsOk act.T3.2 act.B3 = true := by kernel_rfl
set_option maxHeartbeats 8000000 in
set_option maxRecDepth 100000 in
theorem act0.calls (B g h m room : Nat) (L : List (List Int)) (k l x : Int) (w0 w : World) (hk : k = 0) (hB : Below B w0 w) (hBw : B ≤ w.heap.size) (hBm : B ≤ m) (hL : LnP B g room L w) (hR : RfP h m room L w) (hr : room ≤ 64) (hmax : L.length ≤ 9223372036854775807) :
    Calls Try.prog 17 #[.pointer (some ⟨g, 0, none⟩), .pointer (some ⟨h, 0, none⟩), .agg #[.int .i64 k, .int .i64 l, .int .i64 x]] w fun e w' => e = .returned (.bool true) ∧ ∃ L', L'.length = L.length ∧ LnP B g room L' w' ∧ RfP h m room L' w' ∧ Below B w0 w' := by
  subst hk
  have HA := Aside0.mk (show Below w.heap.size w (w.alloc (.cells #[.int .i64 0, .int .i64 l, .int .i64 x] 42 (0, 0))) from (Below.refl _ w).alloc (Nat.le_refl _) _)
  have HB := Aside0.mk (show Below B w0 (w.alloc (.cells #[.int .i64 0, .int .i64 l, .int .i64 x] 42 (0, 0))) from hB.alloc hBw _)
  have HBw := Aside0.mk (show B ≤ (w.alloc (.cells #[.int .i64 0, .int .i64 l, .int .i64 x] 42 (0, 0))).heap.size by simp; omega)
  have HL := Aside0.mk (hL.below HA.out)
  have HR := Aside0.mk (hR.below HA.out)
  have HK := Aside0.mk (show (w.alloc (.cells #[.int .i64 0, .int .i64 l, .int .i64 x] 42 (0, 0))).heap[w.heap.size]? = some (.cells #[.int .i64 0, .int .i64 l, .int .i64 x] 42 (0, 0)) from blk_new w _)
  have hk0 := blk_cell HK.out 0
  have hk1 := blk_cell HK.out 1
  have hk2 := blk_cell HK.out 2
  simp at hk0 hk1 hk2
  clear hB hL hR HA
  have hee : ((putV room L l x).1 == (putV room L l x).1) = true := by simp
  go_enter Try.func17, Try.ntmps17
  go_wp2_with fail
  have HL' := Aside0.mk (HL.out.below (below_drew1 (Below.refl _ _)))
  have HR' := Aside0.mk (HR.out.below (below_drew1 (Below.refl _ _)))
  have HB' := Aside0.mk (below_drew1 HB.out)
  have HK' := Aside0.mk (blk_drew HK.out)
  have HBw' := Aside0.mk (show B ≤ (World.drew (w.alloc (.cells #[.int .i64 0, .int .i64 l, .int .i64 x] 42 (0, 0)))).heap.size from HBw.out)
  clear hk0 hk1 hk2 HL HR HB HK HBw
  have HL := HL'
  have HR := HR'
  have HB := HB'
  have HK := HK'
  have HBw := HBw'
  clear HL' HR' HB' HK' HBw'
  refine start_ (n := 14) (S := fun w' => w'.cell? ⟨w.heap.size, 1, none⟩ = some (.int .i64 l) ∧ w'.cell? ⟨w.heap.size, 2, none⟩ = some (.int .i64 x)) (ds := []) #[false, false, false, false, false, false, false, false, false, false, false, false, false, false] (by kernel_rfl) rfl rfl ⟨blk_cell HK.out 1, blk_cell HK.out 2⟩ (fun hHeld => ?_)
  refine with_tabW act.tab3 act.bits3 (fun HT_ HW_ => ?_)
  generalize hW : (w.alloc (.cells #[.int .i64 0, .int .i64 l, .int .i64 x] 42 (0, 0))).drew = W at HL HR HB HBw HK hHeld ⊢
  clear hW
  refine pure_ (i := 0) (N := some 21) (v := ?_) (a' := ?_) #[true, false, false, false, false, false, false, false, false, false, false, false, false, false] rfl rfl (any_of HT_.out (by kernel_rfl)) (fun _ _ _ h => h) (Or.inl ⟨by rfl, ?_⟩) ?_ ?_
  rotate_left
  · intro w'
    go_simp
    with_reducible rfl
  rotate_left
  · simp only [Act.put, List.setIfInBounds_toArray, List.set_cons_zero, List.set_cons_succ, i64_w, i32_w]
    rfl
  refine pure_ (i := 1) (N := some 22) (v := ?_) (a' := ?_) #[true, true, false, false, false, false, false, false, false, false, false, false, false, false] rfl rfl (any_of HT_.out (by kernel_rfl)) (fun _ _ _ h => h) (Or.inl ⟨by rfl, ?_⟩) ?_ ?_
  rotate_left
  · intro w'
    go_simp
    with_reducible rfl
  rotate_left
  · simp only [Act.put, List.setIfInBounds_toArray, List.set_cons_zero, List.set_cons_succ, i64_w, i32_w]
    rfl
  refine pure_ (i := 3) (N := some 24) (v := ?_) (a' := ?_) #[true, true, false, true, false, false, false, false, false, false, false, false, false, false] rfl rfl (any_of HT_.out (by kernel_rfl)) (fun _ _ _ h => h) (Or.inl ⟨by rfl, ?_⟩) ?_ ?_
  rotate_left
  · intro w'
    go_simp
    with_reducible rfl
  rotate_left
  · simp only [Act.put, List.setIfInBounds_toArray, List.set_cons_zero, List.set_cons_succ, i64_w, i32_w]
    rfl
  refine pure_ (i := 6) (N := some 27) (v := ?_) (a' := ?_) #[true, true, false, true, false, false, true, false, false, false, false, false, false, false] rfl rfl (any_of HT_.out (by kernel_rfl)) (fun _ _ _ h => h) (Or.inl ⟨by rfl, ?_⟩) ?_ ?_
  rotate_left
  · intro w'
    go_simp
    with_reducible rfl
  rotate_left
  · simp only [Act.put, List.setIfInBounds_toArray, List.set_cons_zero, List.set_cons_succ, i64_w, i32_w]
    rfl
  refine pure_ (i := 7) (N := some 28) (v := ?_) (a' := ?_) #[true, true, false, true, false, false, true, true, false, false, false, false, false, false] rfl rfl (any_of HT_.out (by kernel_rfl)) (fun _ _ _ h => h) (Or.inl ⟨by rfl, ?_⟩) ?_ ?_
  rotate_left
  · intro w'
    go_simp
    with_reducible rfl
  rotate_left
  · simp only [Act.put, List.setIfInBounds_toArray, List.set_cons_zero, List.set_cons_succ, i64_w, i32_w]
    rfl
  refine pure_ (i := 9) (N := some 30) (v := ?_) (a' := ?_) #[true, true, false, true, false, false, true, true, false, true, false, false, false, false] rfl rfl (any_of HT_.out (by kernel_rfl)) (fun _ _ _ h => h) (Or.inl ⟨by rfl, ?_⟩) ?_ ?_
  rotate_left
  · intro w'
    go_simp
    with_reducible rfl
  rotate_left
  · simp only [Act.put, List.setIfInBounds_toArray, List.set_cons_zero, List.set_cons_succ, i64_w, i32_w]
    rfl
  refine take_ (i := 2) (N := some 23) (v := ?_) (a' := ?_) #[true, true, true, true, false, false, true, true, false, true, false, false, false, false] rfl rfl (take_ofW HT_.out HW_.out (by kernel_rfl)) (fun _ _ _ h => h) (Or.inl ⟨by rfl, ?_⟩) hHeld ?_ ?_
  rotate_left
  · rintro w' ⟨s0, s1⟩
    go_simp
    with_reducible rfl
  rotate_left
  · simp only [Act.put, List.setIfInBounds_toArray, List.set_cons_zero, List.set_cons_succ, i64_w, i32_w]
    rfl
  refine take_ (i := 4) (N := some 25) (v := ?_) (a' := ?_) #[true, true, true, true, true, false, true, true, false, true, false, false, false, false] rfl rfl (take_ofW HT_.out HW_.out (by kernel_rfl)) (fun _ _ _ h => h) (Or.inl ⟨by rfl, ?_⟩) hHeld ?_ ?_
  rotate_left
  · rintro w' ⟨s0, s1⟩
    go_simp
    with_reducible rfl
  rotate_left
  · simp only [Act.put, List.setIfInBounds_toArray, List.set_cons_zero, List.set_cons_succ, i64_w, i32_w]
    rfl
  refine take_ (i := 8) (N := some 29) (v := ?_) (a' := ?_) #[true, true, true, true, true, false, true, true, true, true, false, false, false, false] rfl rfl (take_ofW HT_.out HW_.out (by kernel_rfl)) (fun _ _ _ h => h) (Or.inl ⟨by rfl, ?_⟩) hHeld ?_ ?_
  rotate_left
  · rintro w' ⟨s0, s1⟩
    go_simp
    with_reducible rfl
  rotate_left
  · simp only [Act.put, List.setIfInBounds_toArray, List.set_cons_zero, List.set_cons_succ, i64_w, i32_w]
    rfl
  refine take_ (i := 10) (N := some 31) (v := ?_) (a' := ?_) #[true, true, true, true, true, false, true, true, true, true, true, false, false, false] rfl rfl (take_ofW HT_.out HW_.out (by kernel_rfl)) (fun _ _ _ h => h) (Or.inl ⟨by rfl, ?_⟩) hHeld ?_ ?_
  rotate_left
  · rintro w' ⟨s0, s1⟩
    go_simp
    with_reducible rfl
  rotate_left
  · simp only [Act.put, List.setIfInBounds_toArray, List.set_cons_zero, List.set_cons_succ, i64_w, i32_w]
    rfl
  refine one_ (i := 5) (N := some 26) #[true, true, true, true, true, true, true, true, true, true, true, false, false, false] rfl rfl (one_of HT_.out (by kernel_rfl)) (by decide) (fun K hK => ?_)
  refine goes_ Try.func14 (by kernel_rfl) rfl #[.pointer (some ⟨g, 0, none⟩), .int .i64 l, .int .i64 x] (by rfl) rfl rfl (by (try simp only [List.map_toArray, List.map_cons, List.map_nil]); first | done | rfl) ?_
  with_reducible refine (Put.calls B g room L l x w0 _ HB.out HL.out).mono ?_
  rintro e w1 ⟨rfl, hp⟩
  refine ⟨_, rfl, ?_⟩
  have HL1 := Aside0.mk hp.1
  have HB1 := Aside0.mk hp.2.1
  have HR1 := Aside0.mk (HR.out.far hp.2.2)
  have HK1 := Aside0.mk (hp.2.2.blk HK.out (fun ⟨_, _, _, _, _, _, e⟩ => by rw [HK.out] at e; simp at e))
  have HBw1 := Aside0.mk (Nat.le_trans HBw.out hp.2.2.size)
  clear hp HL HR HB HK
  refine hK.out _ _ ⟨(blk_cell HK1.out 1), (blk_cell HK1.out 2)⟩ (fun hHeld => ?_)
  clear hK K
  refine norm_ (a' := ?_) ?_ ?_
  rotate_left
  · show Act.put _ (some 26) _ = _
    simp only [Act.put, List.setIfInBounds_toArray, List.set_cons_zero, List.set_cons_succ, i64_w, i32_w]
    rfl
  refine one_ (i := 11) (N := some 32) #[true, true, true, true, true, true, true, true, true, true, true, true, false, false] rfl rfl (one_of HT_.out (by kernel_rfl)) (by decide) (fun K hK => ?_)
  refine goes_ Try.func27 (by kernel_rfl) rfl #[.pointer (some ⟨h, 0, none⟩), .int .i64 l, .int .i64 x] (by rfl) rfl rfl (by (try simp only [List.map_toArray, List.map_cons, List.map_nil]); first | done | rfl) ?_
  with_reducible refine (RPut.calls B h m room L l x w0 w1 HB1.out hBm HR1.out hr).mono ?_
  rintro e w2 ⟨rfl, hp⟩
  refine ⟨_, rfl, ?_⟩
  have HL2 := Aside0.mk (HL1.out.farM HR1.out hp.2.2)
  have HB2 := Aside0.mk hp.2.1
  have HBw2 := Aside0.mk (Nat.le_trans HBw1.out hp.2.2.size)
  have HR2 := Aside0.mk hp.1
  have HK2 := Aside0.mk (hp.2.2.blk HK1.out (fun e => by
    obtain ⟨vs, hS⟩ := HR1.out
    have hmb := hS.mb
    rw [← e, HK1.out] at hmb
    simp at hmb))
  clear hp HL1 HR1 HB1 HK1
  refine hK.out _ _ ⟨(blk_cell HK2.out 1), (blk_cell HK2.out 2)⟩ (fun hHeld => ?_)
  clear hK K
  refine norm_ (a' := ?_) ?_ ?_
  rotate_left
  · show Act.put _ (some 32) _ = _
    simp only [Act.put, List.setIfInBounds_toArray, List.set_cons_zero, List.set_cons_succ, i64_w, i32_w]
    rfl
  refine pure_ (i := 12) (N := some 33) (v := ?_) (a' := ?_) #[true, true, true, true, true, true, true, true, true, true, true, true, true, false] rfl rfl (any_of HT_.out (by kernel_rfl)) (fun _ _ _ h => h) (Or.inl ⟨by rfl, ?_⟩) ?_ ?_
  rotate_left
  · intro w'
    go_simp
    with_reducible rfl
  rotate_left
  · simp only [Act.put, List.setIfInBounds_toArray, List.set_cons_zero, List.set_cons_succ, i64_w, i32_w]
    rfl
  refine pure_ (i := 13) (N := some 6) (v := ?_) (a' := ?_) #[true, true, true, true, true, true, true, true, true, true, true, true, true, true] rfl rfl (any_of HT_.out (by kernel_rfl)) (fun _ _ _ h => h) (Or.inl ⟨by rfl, ?_⟩) ?_ ?_
  rotate_left
  · intro w'
    go_simp
    with_reducible rfl
  rotate_left
  · simp only [Act.put, List.setIfInBounds_toArray, List.set_cons_zero, List.set_cons_succ, i64_w, i32_w]
    rfl
  refine done_ (done_of HT_.out (by kernel_rfl)) ?_

  go_wp2
  go_ret
  exact ⟨rfl, _, putV_len _ _ _ _, HL2.out, HR2.out, HB2.out⟩
set_option maxHeartbeats 8000000 in
set_option maxRecDepth 100000 in
theorem act1.calls (B g h m room : Nat) (L : List (List Int)) (k l x : Int) (w0 w : World) (hk : k = 1) (hB : Below B w0 w) (hBw : B ≤ w.heap.size) (hBm : B ≤ m) (hL : LnP B g room L w) (hR : RfP h m room L w) (hr : room ≤ 64) (hmax : L.length ≤ 9223372036854775807) :
    Calls Try.prog 17 #[.pointer (some ⟨g, 0, none⟩), .pointer (some ⟨h, 0, none⟩), .agg #[.int .i64 k, .int .i64 l, .int .i64 x]] w fun e w' => e = .returned (.bool true) ∧ ∃ L', L'.length = L.length ∧ LnP B g room L' w' ∧ RfP h m room L' w' ∧ Below B w0 w' := by
  subst hk
  have HA := Aside0.mk (show Below w.heap.size w (w.alloc (.cells #[.int .i64 1, .int .i64 l, .int .i64 x] 42 (0, 0))) from (Below.refl _ w).alloc (Nat.le_refl _) _)
  have HB := Aside0.mk (show Below B w0 (w.alloc (.cells #[.int .i64 1, .int .i64 l, .int .i64 x] 42 (0, 0))) from hB.alloc hBw _)
  have HBw := Aside0.mk (show B ≤ (w.alloc (.cells #[.int .i64 1, .int .i64 l, .int .i64 x] 42 (0, 0))).heap.size by simp; omega)
  have HL := Aside0.mk (hL.below HA.out)
  have HR := Aside0.mk (hR.below HA.out)
  have HK := Aside0.mk (show (w.alloc (.cells #[.int .i64 1, .int .i64 l, .int .i64 x] 42 (0, 0))).heap[w.heap.size]? = some (.cells #[.int .i64 1, .int .i64 l, .int .i64 x] 42 (0, 0)) from blk_new w _)
  have hk0 := blk_cell HK.out 0
  have hk1 := blk_cell HK.out 1
  have hk2 := blk_cell HK.out 2
  simp at hk0 hk1 hk2
  clear hB hL hR HA
  obtain ⟨t, hT⟩ : ∃ t, t = takeV L.length 0 L := ⟨_, rfl⟩
  have hlen : t.2.2.2.length = L.length := by rw [hT]; exact takeV_len L _ _
  have e1 : (t.1 == t.1) = true := by simp
  have e2 : (t.2.1 == t.2.1) = true := by simp
  have e3 : (t.2.2.1 == t.2.2.1) = true := by simp
  go_enter Try.func17, Try.ntmps17
  go_wp2_with fail
  have hC := Take.calls B g room L w0 _ HB.out HL.out
  rw [← hT] at hC
  refine hC.mono ?_
  rintro e w1 ⟨rfl, hp⟩
  have HL1 := Aside0.mk hp.1
  have HB1 := Aside0.mk hp.2.1
  have HR1 := Aside0.mk (HR.out.far hp.2.2)
  have HK1 := Aside0.mk (hp.2.2.blk HK.out (fun ⟨_, _, _, _, _, _, e⟩ => by rw [HK.out] at e; simp at e))
  have HBw1 := Aside0.mk (Nat.le_trans HBw.out hp.2.2.size)
  clear hp HL HR HB HK hk0 hk1 hk2 hC
  go_wp2_with fail
  have hC := RTake.calls B h m room L w0 w1 HB1.out hBm HR1.out hmax
  rw [← hT] at hC
  refine hC.mono ?_
  rintro e w2 ⟨rfl, hp⟩
  have HL2 := Aside0.mk (HL1.out.farM HR1.out hp.2.2)
  have HB2 := Aside0.mk hp.2.1
  have HBw2 := Aside0.mk (Nat.le_trans HBw1.out hp.2.2.size)
  have HR2 := Aside0.mk hp.1
  have HK2 := Aside0.mk (hp.2.2.blk HK1.out (fun e => by
    obtain ⟨vs, hS⟩ := HR1.out
    have hmb := hS.mb
    rw [← e, HK1.out] at hmb
    simp at hmb))
  clear hp HL1 HR1 HB1 HK1 hC
  go_wp2
  go_ret
  exact ⟨rfl, _, hlen, HL2.out, HR2.out, HB2.out⟩
set_option maxHeartbeats 8000000 in
set_option maxRecDepth 100000 in
theorem act2.calls (B g h m room : Nat) (L : List (List Int)) (k l x : Int) (w0 w : World) (hk : k = 2) (hB : Below B w0 w) (hBw : B ≤ w.heap.size) (hBm : B ≤ m) (hL : LnP B g room L w) (hR : RfP h m room L w) (hr : room ≤ 64) (hmax : L.length ≤ 9223372036854775807) :
    Calls Try.prog 17 #[.pointer (some ⟨g, 0, none⟩), .pointer (some ⟨h, 0, none⟩), .agg #[.int .i64 k, .int .i64 l, .int .i64 x]] w fun e w' => e = .returned (.bool true) ∧ ∃ L', L'.length = L.length ∧ LnP B g room L' w' ∧ RfP h m room L' w' ∧ Below B w0 w' := by
  subst hk
  have HA := Aside0.mk (show Below w.heap.size w (w.alloc (.cells #[.int .i64 2, .int .i64 l, .int .i64 x] 42 (0, 0))) from (Below.refl _ w).alloc (Nat.le_refl _) _)
  have HB := Aside0.mk (show Below B w0 (w.alloc (.cells #[.int .i64 2, .int .i64 l, .int .i64 x] 42 (0, 0))) from hB.alloc hBw _)
  have HBw := Aside0.mk (show B ≤ (w.alloc (.cells #[.int .i64 2, .int .i64 l, .int .i64 x] 42 (0, 0))).heap.size by simp; omega)
  have HL := Aside0.mk (hL.below HA.out)
  have HR := Aside0.mk (hR.below HA.out)
  have HK := Aside0.mk (show (w.alloc (.cells #[.int .i64 2, .int .i64 l, .int .i64 x] 42 (0, 0))).heap[w.heap.size]? = some (.cells #[.int .i64 2, .int .i64 l, .int .i64 x] 42 (0, 0)) from blk_new w _)
  have hk0 := blk_cell HK.out 0
  have hk1 := blk_cell HK.out 1
  have hk2 := blk_cell HK.out 2
  simp at hk0 hk1 hk2
  clear hB hL hR HA
  have e2 : ((fromV L l).1 == (fromV L l).1) = true := by simp
  have e3 : ((fromV L l).2.1 == (fromV L l).2.1) = true := by simp
  go_enter Try.func17, Try.ntmps17
  go_wp2_with fail
  refine (From.calls B g room L l w0 _ HB.out HL.out).mono ?_
  rintro e w1 ⟨rfl, hp⟩
  have HL1 := Aside0.mk hp.1
  have HB1 := Aside0.mk hp.2.1
  have HR1 := Aside0.mk (HR.out.far hp.2.2)
  have HK1 := Aside0.mk (hp.2.2.blk HK.out (fun ⟨_, _, _, _, _, _, e⟩ => by rw [HK.out] at e; simp at e))
  have HBw1 := Aside0.mk (Nat.le_trans HBw.out hp.2.2.size)
  have hk1' := blk_cell HK1.out 1
  simp at hk1'
  clear hp HL HR HB HK hk0 hk1 hk2
  go_wp2_with fail
  refine (RFrom.calls B h m room L l w0 w1 HB1.out hBm HR1.out).mono ?_
  rintro e w2 ⟨rfl, hp⟩
  have HL2 := Aside0.mk (HL1.out.farM HR1.out hp.2.2)
  have HB2 := Aside0.mk hp.2.1
  have HBw2 := Aside0.mk (Nat.le_trans HBw1.out hp.2.2.size)
  have HR2 := Aside0.mk hp.1
  have HK2 := Aside0.mk (hp.2.2.blk HK1.out (fun e => by
    obtain ⟨vs, hS⟩ := HR1.out
    have hmb := hS.mb
    rw [← e, HK1.out] at hmb
    simp at hmb))
  clear hp HL1 HR1 HB1 HK1 hk1'
  go_wp2
  go_ret
  exact ⟨rfl, _, fromV_len _ _, HL2.out, HR2.out, HB2.out⟩
def act.T12 : Bool × List (List Nat × List Nat) := (true, [([], []), ([], []), ([1], [1]), ([0, 2], [0, 2]), ([], []), ([], []), ([5], [5]), ([4, 6, 3], [4, 6]), ([3, 7, 7], [3, 7]), ([8, 8, 0, 1, 2, 3, 4, 5, 6, 7, 8], [8])])
def act.B12 : List Nat := [0, 0, 2, 7, 0, 0, 32, 127, 255, 511]
theorem act.tab12 : rtab .any (opsOf Try.f17 12) = act.T12 := by kernel_rfl
theorem act.bits12 : waitsOk act.T12.2 act.B12 = true := by kernel_rfl
set_option maxHeartbeats 8000000 in
set_option maxRecDepth 100000 in
theorem act3.calls (B g h m room : Nat) (L : List (List Int)) (k l x : Int) (w0 w : World) (hk : k ≠ 0 ∧ k ≠ 1 ∧ k ≠ 2) (hB : Below B w0 w) (hBw : B ≤ w.heap.size) (hBm : B ≤ m) (hL : LnP B g room L w) (hR : RfP h m room L w) (hr : room ≤ 64) (hmax : L.length ≤ 9223372036854775807) :
    Calls Try.prog 17 #[.pointer (some ⟨g, 0, none⟩), .pointer (some ⟨h, 0, none⟩), .agg #[.int .i64 k, .int .i64 l, .int .i64 x]] w fun e w' => e = .returned (.bool true) ∧ ∃ L', L'.length = L.length ∧ LnP B g room L' w' ∧ RfP h m room L' w' ∧ Below B w0 w' := by
  have HA := Aside0.mk (show Below w.heap.size w (w.alloc (.cells #[.int .i64 k, .int .i64 l, .int .i64 x] 42 (0, 0))) from (Below.refl _ w).alloc (Nat.le_refl _) _)
  have HB := Aside0.mk (show Below B w0 (w.alloc (.cells #[.int .i64 k, .int .i64 l, .int .i64 x] 42 (0, 0))) from hB.alloc hBw _)
  have HBw := Aside0.mk (show B ≤ (w.alloc (.cells #[.int .i64 k, .int .i64 l, .int .i64 x] 42 (0, 0))).heap.size by simp; omega)
  have HL := Aside0.mk (hL.below HA.out)
  have HR := Aside0.mk (hR.below HA.out)
  have HK := Aside0.mk (show (w.alloc (.cells #[.int .i64 k, .int .i64 l, .int .i64 x] 42 (0, 0))).heap[w.heap.size]? = some (.cells #[.int .i64 k, .int .i64 l, .int .i64 x] 42 (0, 0)) from blk_new w _)
  have hk0 := blk_cell HK.out 0
  have hk1 := blk_cell HK.out 1
  have hk2 := blk_cell HK.out 2
  simp at hk0 hk1 hk2
  clear hB hL hR HA
  have e0 : (k == 0) = false := by simp [hk.1]
  have e1 : (k == 1) = false := by simp [hk.2.1]
  have e2 : (k == 2) = false := by simp [hk.2.2]
  have hq : (drainV L l).1.length ≤ 9223372036854775806 := by
    unfold drainV
    split
    · obtain ⟨v, cs, hS⟩ := HL.out
      have := hS.fits l.toNat
      simp only
      omega
    · simp
  go_enter Try.func17, Try.ntmps17
  go_wp2_with fail
  have HL' := Aside0.mk (HL.out.below (below_drew1 (Below.refl _ _)))
  have HR' := Aside0.mk (HR.out.below (below_drew1 (Below.refl _ _)))
  have HB' := Aside0.mk (below_drew1 HB.out)
  have HK' := Aside0.mk (blk_drew HK.out)
  have HBw' := Aside0.mk (show B ≤ (World.drew (w.alloc (.cells #[.int .i64 k, .int .i64 l, .int .i64 x] 42 (0, 0)))).heap.size from HBw.out)
  clear hk0 hk1 hk2 HL HR HB HK HBw
  have HL := HL'
  have HR := HR'
  have HB := HB'
  have HK := HK'
  have HBw := HBw'
  clear HL' HR' HB' HK' HBw'
  refine start_ (n := 10) (S := fun w' => w'.cell? ⟨w.heap.size, 1, none⟩ = some (.int .i64 l) ∧ w'.cell? ⟨w.heap.size, 2, none⟩ = some (.int .i64 x)) (ds := []) #[false, false, false, false, false, false, false, false, false, false] (by kernel_rfl) rfl rfl ⟨blk_cell HK.out 1, blk_cell HK.out 2⟩ (fun hHeld => ?_)
  refine with_tabW act.tab12 act.bits12 (fun HT_ HW_ => ?_)
  generalize hW : (w.alloc (.cells #[.int .i64 k, .int .i64 l, .int .i64 x] 42 (0, 0))).drew = W at HL HR HB HBw HK hHeld ⊢
  clear hW
  refine pure_ (i := 0) (N := some 85) (v := ?_) (a' := ?_) #[true, false, false, false, false, false, false, false, false, false] rfl rfl (any_of HT_.out (by kernel_rfl)) (fun _ _ _ h => h) (Or.inl ⟨by rfl, ?_⟩) ?_ ?_
  rotate_left
  · intro w'
    go_simp
    with_reducible rfl
  rotate_left
  · simp only [Act.put, List.setIfInBounds_toArray, List.set_cons_zero, List.set_cons_succ, i64_w, i32_w]
    rfl
  refine pure_ (i := 1) (N := some 86) (v := ?_) (a' := ?_) #[true, true, false, false, false, false, false, false, false, false] rfl rfl (any_of HT_.out (by kernel_rfl)) (fun _ _ _ h => h) (Or.inl ⟨by rfl, ?_⟩) ?_ ?_
  rotate_left
  · intro w'
    go_simp
    with_reducible rfl
  rotate_left
  · simp only [Act.put, List.setIfInBounds_toArray, List.set_cons_zero, List.set_cons_succ, i64_w, i32_w]
    rfl
  refine pure_ (i := 4) (N := some 89) (v := ?_) (a' := ?_) #[true, true, false, false, true, false, false, false, false, false] rfl rfl (any_of HT_.out (by kernel_rfl)) (fun _ _ _ h => h) (Or.inl ⟨by rfl, ?_⟩) ?_ ?_
  rotate_left
  · intro w'
    go_simp
    with_reducible rfl
  rotate_left
  · simp only [Act.put, List.setIfInBounds_toArray, List.set_cons_zero, List.set_cons_succ, i64_w, i32_w]
    rfl
  refine pure_ (i := 5) (N := some 90) (v := ?_) (a' := ?_) #[true, true, false, false, true, true, false, false, false, false] rfl rfl (any_of HT_.out (by kernel_rfl)) (fun _ _ _ h => h) (Or.inl ⟨by rfl, ?_⟩) ?_ ?_
  rotate_left
  · intro w'
    go_simp
    with_reducible rfl
  rotate_left
  · simp only [Act.put, List.setIfInBounds_toArray, List.set_cons_zero, List.set_cons_succ, i64_w, i32_w]
    rfl
  refine take_ (i := 2) (N := some 87) (v := ?_) (a' := ?_) #[true, true, true, false, true, true, false, false, false, false] rfl rfl (take_ofW HT_.out HW_.out (by kernel_rfl)) (fun _ _ _ h => h) (Or.inl ⟨by rfl, ?_⟩) hHeld ?_ ?_
  rotate_left
  · rintro w' ⟨s0, s1⟩
    go_simp
    with_reducible rfl
  rotate_left
  · simp only [Act.put, List.setIfInBounds_toArray, List.set_cons_zero, List.set_cons_succ, i64_w, i32_w]
    rfl
  refine take_ (i := 6) (N := some 91) (v := ?_) (a' := ?_) #[true, true, true, false, true, true, true, false, false, false] rfl rfl (take_ofW HT_.out HW_.out (by kernel_rfl)) (fun _ _ _ h => h) (Or.inl ⟨by rfl, ?_⟩) hHeld ?_ ?_
  rotate_left
  · rintro w' ⟨s0, s1⟩
    go_simp
    with_reducible rfl
  rotate_left
  · simp only [Act.put, List.setIfInBounds_toArray, List.set_cons_zero, List.set_cons_succ, i64_w, i32_w]
    rfl
  refine one_ (i := 3) (N := some 88) #[true, true, true, true, true, true, true, false, false, false] rfl rfl (one_of HT_.out (by kernel_rfl)) (by decide) (fun K hK => ?_)
  refine goes_ Try.func21 (by kernel_rfl) rfl #[.pointer (some ⟨g, 0, none⟩), .int .i64 l] (by rfl) rfl rfl (by (try simp only [List.map_toArray, List.map_cons, List.map_nil]); first | done | rfl) ?_
  with_reducible refine (Drain.calls B g room L l w0 _ HB.out HBw.out HL.out hr).mono ?_
  rintro e w1 ⟨v1, rfl, hw, hp⟩
  refine ⟨_, rfl, ?_⟩
  have HL1 := Aside0.mk hp.1
  have HB1 := Aside0.mk hp.2.1
  have HR1 := Aside0.mk (HR.out.far hp.2.2)
  have HK1 := Aside0.mk (hp.2.2.blk HK.out (fun ⟨_, _, _, _, _, _, e⟩ => by rw [HK.out] at e; simp at e))
  have HBw1 := Aside0.mk (Nat.le_trans HBw.out hp.2.2.size)
  have HV1 := Aside0.mk hw
  clear hp HL HR HB HK hw
  refine hK.out _ _ ⟨(blk_cell HK1.out 1), (blk_cell HK1.out 2)⟩ (fun hHeld => ?_)
  clear hK K
  refine norm_ (a' := ?_) ?_ ?_
  rotate_left
  · show Act.put _ (some 88) _ = _
    simp only [Act.put, List.setIfInBounds_toArray, List.set_cons_zero, List.set_cons_succ, i64_w, i32_w]
    rfl
  refine one_ (i := 7) (N := some 92) #[true, true, true, true, true, true, true, true, false, false] rfl rfl (one_of HT_.out (by kernel_rfl)) (by decide) (fun K hK => ?_)
  refine goes_ Try.func31 (by kernel_rfl) rfl #[.pointer (some ⟨h, 0, none⟩), .int .i64 l] (by rfl) rfl rfl (by (try simp only [List.map_toArray, List.map_cons, List.map_nil]); first | done | rfl) ?_
  with_reducible refine (RDrain.calls B h m room L l w0 w1 HB1.out hBm HR1.out).mono ?_
  rintro e w2 ⟨v2, rfl, hw, hp⟩
  refine ⟨_, rfl, ?_⟩
  have HL2 := Aside0.mk (HL1.out.farM HR1.out hp.2.2)
  have HB2 := Aside0.mk hp.2.1
  have HBw2 := Aside0.mk (Nat.le_trans HBw1.out hp.2.2.size)
  have HR2 := Aside0.mk hp.1
  have HK2 := Aside0.mk (hp.2.2.blk HK1.out (fun e => by
    obtain ⟨vs, hS⟩ := HR1.out
    have hmb := hS.mb
    rw [← e, HK1.out] at hmb
    simp at hmb))
  have HV2 := Aside0.mk hw
  have HV12 := Aside0.mk (HV1.out.move (fun k cells hk => hp.2.2.block k (blk_lt hk) (fun e => by obtain ⟨vs, hS⟩ := HR1.out; have hmb := hS.mb; rw [← e, hk] at hmb; simp at hmb)))
  clear hp HL1 HR1 HB1 HK1 hw HV1
  obtain ⟨A1, c1, rfl, hc1, hC1⟩ := HV12.out.C
  obtain ⟨A2, c2, rfl, hc2, hC2⟩ := HV2.out.C
  have HC1 := Aside0.mk hC1
  have HC2 := Aside0.mk hC2
  clear hC1 hC2 HV2 HV12
  refine hK.out _ _ ⟨(blk_cell HK2.out 1), (blk_cell HK2.out 2)⟩ (fun hHeld => ?_)
  clear hK K
  refine norm_ (a' := ?_) ?_ ?_
  rotate_left
  · show Act.put _ (some 92) _ = _
    simp only [Act.put, List.setIfInBounds_toArray, List.set_cons_zero, List.set_cons_succ, i64_w, i32_w]
    rfl
  refine one_ (i := 8) (N := some 93) #[true, true, true, true, true, true, true, true, true, false] rfl rfl (one_of HT_.out (by kernel_rfl)) (by decide) (fun K hK => ?_)
  refine goes_ Try.func30 (by kernel_rfl) rfl #[.slice A1 (drainV L l).1.length c1, .slice A2 (drainV L l).1.length c2] (by rfl) rfl rfl (by (try simp only [List.map_toArray, List.map_cons, List.map_nil]); first | done | rfl) ?_
  with_reducible refine (ossuaryref08_Same.calls ((drainV L l).1.length + 1) A1 c1 (drainV L l).1 A2 c2 (drainV L l).1 true w2 HC1.out hc1 HC2.out hc2 (Same_self _ hq)).mono ?_
  rintro e w3 ⟨rfl, hd⟩
  refine ⟨_, rfl, ?_⟩
  have HBd := Aside0.mk hd.below
  clear hd
  refine hK.out _ _ ⟨(blk_cell (blk_below HK2.out HBd.out) 1), (blk_cell (blk_below HK2.out HBd.out) 2)⟩ (fun hHeld => ?_)
  clear hK K
  refine norm_ (a' := ?_) ?_ ?_
  rotate_left
  · show Act.put _ (some 93) _ = _
    simp only [Act.put, List.setIfInBounds_toArray, List.set_cons_zero, List.set_cons_succ, i64_w, i32_w]
    rfl
  refine pure_ (i := 9) (N := some 6) (v := ?_) (a' := ?_) #[true, true, true, true, true, true, true, true, true, true] rfl rfl (any_of HT_.out (by kernel_rfl)) (fun _ _ _ h => h) (Or.inl ⟨by rfl, ?_⟩) ?_ ?_
  rotate_left
  · intro w'
    go_simp
    with_reducible rfl
  rotate_left
  · simp only [Act.put, List.setIfInBounds_toArray, List.set_cons_zero, List.set_cons_succ, i64_w, i32_w]
    rfl
  refine done_ (done_of HT_.out (by kernel_rfl)) ?_

  go_wp2
  go_ret
  exact ⟨rfl, _, drainV_len _ _, HL2.out.below HBd.out, HR2.out.below HBd.out, (HB2.out.trans (HBd.out.mono HBw2.out))⟩
theorem act.calls (B g h m room : Nat) (L : List (List Int)) (k l x : Int) (w0 w : World) (hB : Below B w0 w) (hBw : B ≤ w.heap.size) (hBm : B ≤ m) (hL : LnP B g room L w) (hR : RfP h m room L w) (hr : room ≤ 64) (hmax : L.length ≤ 9223372036854775807) :
    Calls Try.prog 17 #[.pointer (some ⟨g, 0, none⟩), .pointer (some ⟨h, 0, none⟩), .agg #[.int .i64 k, .int .i64 l, .int .i64 x]] w fun e w' => e = .returned (.bool true) ∧ ∃ L', L'.length = L.length ∧ LnP B g room L' w' ∧ RfP h m room L' w' ∧ Below B w0 w' := by
  by_cases h0 : k = 0
  · exact act0.calls B g h m room L k l x w0 w h0 hB hBw hBm hL hR hr hmax
  · by_cases h1 : k = 1
    · exact act1.calls B g h m room L k l x w0 w h1 hB hBw hBm hL hR hr hmax
    · by_cases h2 : k = 2
      · exact act2.calls B g h m room L k l x w0 w h2 hB hBw hBm hL hR hr hmax
      · exact act3.calls B g h m room L k l x w0 w ⟨h0, h1, h2⟩ hB hBw hBm hL hR hr hmax
end Ln
end Go.Proofs.Ytiokjjadpobciaa.P
