import Derived.Test.YtjegkfdcelodeaaXr
import Derived.Test.YtjegkfdcelodeaaPx5
namespace Go.Proofs.Ytjegkfdcelodeaa.P
open Go.RowKit Go.Proofs.YtjegkfdcelodeaaW.PrintWords Go.Proofs.YtjegkfdcelodeaaW.PrintLast Go.Proofs.YtjegkfdcelodeaaW.PrintMore
attribute [local go_sem] max2_int min2_int max_two min_two max_three min_three max_four min_four
set_option linter.unusedVariables false
set_option linter.unusedSimpArgs false
namespace Wr
theorem RdP.far {g x : Nat} {l : List Int} {f : Int} {w w' : World} (h : RdP g l f w) (hf : Far w w' (fun k => k = x)) (hx : g < x) : RdP g l f w' := by
  obtain ⟨A, c, h⟩ := h
  exact ⟨A, c, hf.blk h.blk (by omega), h.cap, Kd.C_keep 0 h.row ⟨hf.size, fun i hi hg _ => hf.block i hi hg⟩ (fun ad e hp => by have := h.under ad e hp; omega), h.under⟩
theorem XdS.far {g x : Nat} {A : Option Addr} {c : Nat} {l : List Int} {f : Int} {w w' : World} (h : XdS g A c l f w) (hf : Far w w' (fun k => k = x)) (hx : ¬ g = x) (hne : ∀ ad, A = some ad → 0 < l.length → ad.block ≠ x) : XdS g A c l f w' :=
  ⟨hf.blk h.blk hx, h.cap, Kd.C_keep 0 h.row ⟨hf.size, fun i hi hg _ => hf.block i hi hg⟩ hne, h.under⟩
theorem XdS.below {g : Nat} {A : Option Addr} {c : Nat} {l : List Int} {f : Int} {w w' : World} (h : XdS g A c l f w) (hb : Below w.heap.size w w') : XdS g A c l f w' :=
  ⟨blk_below h.blk hb, h.cap, Kd.C_below h.row hb, h.under⟩
end Wr
def pr.T8 : Bool × List (List Nat × List Nat) := (true, [([], []), ([], []), ([0, 1], [0, 1]), ([2], [2]), ([3], [3]), ([3], [3]), ([4, 5, 3], [3, 4, 5]), ([3, 6], [3, 6]), ([7, 3], [7]), ([8], [8]), ([9, 8], [8, 9]), ([8, 10], [8, 10]), ([11, 8], [11]), ([12], [12]), ([13, 12], [12, 13]), ([14, 12, 12], [12, 14]), ([15], [15]), ([16, 15, 15], [15, 16]), ([15], [15]), ([18, 15], [15, 18]), ([19, 15], [15, 19]), ([20, 15], [15, 20]), ([21, 15], [15, 21]), ([17, 22, 15], [15, 17, 22]), ([15, 23, 12], [12, 15, 23]), ([12, 24], [12, 24]), ([25, 17], [25]), ([26, 26], [26]), ([26, 27], [26, 27]), ([28, 27, 0, 1, 2, 3, 4, 5, 6, 7, 8, 9, 10, 11, 12, 13, 14, 15, 16, 17, 18, 19, 20, 21, 22, 23, 24, 25, 26, 27, 28], [28])])
def pr.B8 : List Nat := [0, 0, 3, 7, 15, 15, 63, 127, 255, 511, 1023, 2047, 4095, 8191, 16383, 32767, 65535, 131071, 65535, 327679, 851967, 1900543, 3997695, 8388607, 16777215, 33554431, 67108863, 134217727, 268435455, 536870911]
theorem pr.tab8 : rtab .any (opsOf Try.f9 8) = pr.T8 := by kernel_rfl
theorem pr.bits8 : waitsOk pr.T8.2 pr.B8 = true := by kernel_rfl
open Wr in
set_option maxHeartbeats 8000000 in
set_option maxRecDepth 100000 in
theorem pr.long (A0 : Option Addr) (c0 : Nat) (b : List Int) (w : World) (hb : 200 < b.length) (hal : ossuarylaw18_alive.f = some true) :
    Calls Try.prog 9 #[.slice A0 b.length c0] w fun e w' => e = .returned (.bool true) ∧ Below w.heap.size w w' := by
  have d1 : decide (200 < (b.length : Int)) = true := decide_eq_true (by omega)
  go_enter Try.func9, Try.ntmps9
  go_wp2_with fail
  refine (ossuarylaw18_alive.calls true _ hal).mono ?_
  rintro e w3 ⟨rfl, hb⟩
  have HB := Aside0.mk hb
  clear hb
  go_wp2
  go_ret
  exact ⟨rfl, HB.out⟩
open Wr in
set_option maxHeartbeats 8000000 in
set_option maxRecDepth 100000 in
theorem pr.good (A0 : Option Addr) (c0 : Nat) (b : List Int) (a0 a1 a2 a3 a4 a5 a6 a7 a8 F : Int) (k : Nat) (w : World) (hC : Kd.C (Kd.int .u8) w A0 b.length b) (hc : b.length ≤ c0) (hbd : ∀ x ∈ b, 0 ≤ x ∧ x < 256) (hb : b.length ≤ 200)
    (hres : resP (b, 0) = (polA a0 a1 a2 a3 a4 a5 a6 a7 a8, F)) (hF : F = 0) (hne : ∀ ad, A0 = some ad → 0 < b.length → ad.block < w.heap.size) (hchk : ossuaryref18_Check.f k (cvS (b, 0) 9 0) (cvS (b, 0) 9 1) (cvS (b, 0) 9 2) (cvS (b, 0) 9 3) (cvS (b, 0) 9 4) (cvS (b, 0) 9 5) (cvS (b, 0) 9 6) (cvS (b, 0) 9 7) (cvS (b, 0) 9 8) = some (polC (b, 0))) (hal : ossuarylaw18_alive.f = some true) :
    Calls Try.prog 9 #[.slice A0 b.length c0] w fun e w' => e = .returned (.bool true) ∧ Below w.heap.size w w' := by
  have HC := Aside0.mk hC
  have HBD := Aside0.mk hbd
  have HRES := Aside0.mk hres
  have HCHK := Aside0.mk hchk
  have HAL := Aside0.mk hal
  have HNE := Aside0.mk hne
  clear hC hbd hres hchk hal hne
  have d1 : decide (200 < (b.length : Int)) = false := decide_eq_false (by omega)
  go_enter Try.func9, Try.ntmps9
  go_wp2_with fail
  refine (NewReader.calls A0 c0 b w HC.out hc (by omega)).mono ?_
  rintro e w1 ⟨g, rfl, hg, hr, hb1⟩
  have HX := Aside0.mk (show XdS w1.heap.size A0 c0 b 0 (w1.alloc (.cells #[.slice A0 b.length c0, .int .i64 0] 69 (0, 0))) from ⟨blk_new w1 _, hc, Kd.C_alloc (Kd.C_below HC.out hb1) _, fun ad e hp => by subst e; exact Nat.lt_of_lt_of_le (Kd.C_lt HC.out hp (by decide)) hb1.size⟩)
  have HR := Aside0.mk (hr.below ((Below.refl _ w1).alloc (Nat.le_refl _) (.cells #[.slice A0 b.length c0, .int .i64 0] 69 (0, 0))))
  have HB := Aside0.mk (hb1.alloc hb1.size (.cells #[.slice A0 b.length c0, .int .i64 0] 69 (0, 0)))
  have hgx : g < w1.heap.size := by obtain ⟨_, _, h⟩ := hr; exact blk_lt h.blk
  have hwx : w.heap.size ≤ w1.heap.size := hb1.size
  clear hr hb1 HC
  have hset := fun (W : World) => run_storeCells_new (P := Try.prog) W 23 #[.int .i64 0, .int .i64 0, .int .i64 0, .int .i64 0, .int .i64 0, .int .i64 0, .int .i64 0, .int .i64 0, .int .i64 0] (polA a0 a1 a2 a3 a4 a5 a6 a7 a8) (by kernel_rfl) rfl (by simp [polA, Value.oneCell'])
  have hset0 := fun (W : World) => run_storeCells_new (P := Try.prog) W 23 #[.int .i64 0, .int .i64 0, .int .i64 0, .int .i64 0, .int .i64 0, .int .i64 0, .int .i64 0, .int .i64 0, .int .i64 0] zeroP (by kernel_rfl) rfl (by simp [zeroP, polA, Value.oneCell'])
  have hne : ∀ ad, A0 = some ad → 0 < b.length → ad.block < w.heap.size := HNE.out
  go_wp2_with fail
  refine (policy_Read.calls w.heap.size g (b, 0) w _ HBD.out HB.out hg HR.out).mono ?_
  rw [HRES.out]
  rintro e w3 ⟨rfl, hr, hb3, hf⟩
  have HX3 := Aside0.mk (XdS.far HX.out hf (by omega) (fun ad e hp => by have := hne ad e hp; omega))
  have HR3 := Aside0.mk (RdP.below hr ((Below.refl _ w3).alloc (Nat.le_refl _) (.cells (polA a0 a1 a2 a3 a4 a5 a6 a7 a8) 23 (0, 0))))
  have HX4 := Aside0.mk (XdS.below HX3.out ((Below.refl _ w3).alloc (Nat.le_refl _) (.cells (polA a0 a1 a2 a3 a4 a5 a6 a7 a8) 23 (0, 0))))
  have HB3 := Aside0.mk (hb3.alloc hb3.size (.cells (polA a0 a1 a2 a3 a4 a5 a6 a7 a8) 23 (0, 0)))
  have BK5 := Aside0.mk (blk_new w3 (.cells (polA a0 a1 a2 a3 a4 a5 a6 a7 a8) 23 (0, 0)))
  have hx5 : w1.heap.size < w3.heap.size := blk_lt HX3.out.blk
  have hw3 : w.heap.size ≤ w3.heap.size := hb3.size
  clear hr hb3 hf HX HR HB HX3
  go_wp2_with fail
  refine (ref_Read.calls w.heap.size w1.heap.size k (b, 0) w _ HBD.out HB3.out hwx ⟨_, _, HX4.out⟩ HCHK.out).mono ?_
  rw [HRES.out]
  rintro e w4 ⟨rfl, hx, hb4, hf⟩
  have HR4 := Aside0.mk ((RdP.far HR3.out hf hgx).below ((Below.refl _ w4).alloc (Nat.le_refl _) (.cells (polA a0 a1 a2 a3 a4 a5 a6 a7 a8) 23 (0, 0))))
  have HX5 := Aside0.mk (XdP.below hx ((Below.refl _ w4).alloc (Nat.le_refl _) (.cells (polA a0 a1 a2 a3 a4 a5 a6 a7 a8) 23 (0, 0))))
  have BK5b := Aside0.mk (blk_alloc (hf.blk BK5.out (by omega)) (.cells (polA a0 a1 a2 a3 a4 a5 a6 a7 a8) 23 (0, 0)))
  have HB4 := Aside0.mk (hb4.alloc hb4.size (.cells (polA a0 a1 a2 a3 a4 a5 a6 a7 a8) 23 (0, 0)))
  have BK7 := Aside0.mk (blk_new w4 (.cells (polA a0 a1 a2 a3 a4 a5 a6 a7 a8) 23 (0, 0)))
  have hw4 : w.heap.size ≤ w4.heap.size := hb4.size
  clear hx hb4 hf HR3 HX4 HB3 BK5
  go_wp2_with fail
  refine (policy_Read_nil.calls _).mono ?_
  rintro e w5 ⟨rfl, hb⟩
  have hb' := hb.alloc hb.size (.cells zeroP 23 (0, 0))
  have HR := Aside0.mk (RdP.below HR4.out (below_drew1 hb'))
  have HX6 := Aside0.mk (XdP.below HX5.out (below_drew1 hb'))
  have HB5 := Aside0.mk (below_drew1 (HB4.out.trans (hb'.mono HB4.out.size)))
  have BK5 := Aside0.mk (blk_below BK5b.out (below_drew1 hb'))
  have BK7b := Aside0.mk (blk_below BK7.out (below_drew1 hb'))
  have hw5 : w.heap.size ≤ w5.heap.size := Nat.le_trans HB4.out.size hb.size
  clear hb hb' HR4 HX5 BK5b HB4 BK7
  try go_wp2_with fail
  clear hset hset0
  have BK7 := BK7b
  have HB := HB5
  clear BK7b HB5
  obtain ⟨AX, cx, hX6⟩ := HX6.out
  have HX := Aside0.mk hX6
  clear hX6 HX6
  have f1 : (F != 0) = false := by simp [hF]
  refine start_ (n := 30) (S := fun w' => w'.cell? ⟨w3.heap.size, 0, none⟩ = some (.int .i64 a0) ∧ w'.cell? ⟨w3.heap.size, 1, none⟩ = some (.int .i64 a1) ∧ w'.cell? ⟨w3.heap.size, 2, none⟩ = some (.int .i64 a2) ∧ w'.cell? ⟨w3.heap.size, 3, none⟩ = some (.int .i64 a3) ∧ w'.cell? ⟨w3.heap.size, 4, none⟩ = some (.int .i64 a4) ∧ w'.cell? ⟨w3.heap.size, 5, none⟩ = some (.int .i64 a5) ∧ w'.cell? ⟨w3.heap.size, 6, none⟩ = some (.int .i64 a6) ∧ w'.cell? ⟨w3.heap.size, 7, none⟩ = some (.int .i64 a7) ∧ w'.cell? ⟨w3.heap.size, 8, none⟩ = some (.int .i64 a8) ∧ w'.cell? ⟨w4.heap.size, 0, none⟩ = some (.int .i64 a0) ∧ w'.cell? ⟨w4.heap.size, 1, none⟩ = some (.int .i64 a1) ∧ w'.cell? ⟨w4.heap.size, 2, none⟩ = some (.int .i64 a2) ∧ w'.cell? ⟨w4.heap.size, 3, none⟩ = some (.int .i64 a3) ∧ w'.cell? ⟨w4.heap.size, 4, none⟩ = some (.int .i64 a4) ∧ w'.cell? ⟨w4.heap.size, 5, none⟩ = some (.int .i64 a5) ∧ w'.cell? ⟨w4.heap.size, 6, none⟩ = some (.int .i64 a6) ∧ w'.cell? ⟨w4.heap.size, 7, none⟩ = some (.int .i64 a7) ∧ w'.cell? ⟨w4.heap.size, 8, none⟩ = some (.int .i64 a8) ∧ w'.cell? ⟨w1.heap.size, 0, none⟩ = some (.slice AX (stS (b, 0) 9).1.length cx)) (ds := []) #[false, false, false, false, false, false, false, false, false, false, false, false, false, false, false, false, false, false, false, false, false, false, false, false, false, false, false, false, false, false] (by kernel_rfl) rfl rfl ⟨(blk_cell BK5.out 0).trans rfl, (blk_cell BK5.out 1).trans rfl, (blk_cell BK5.out 2).trans rfl, (blk_cell BK5.out 3).trans rfl, (blk_cell BK5.out 4).trans rfl, (blk_cell BK5.out 5).trans rfl, (blk_cell BK5.out 6).trans rfl, (blk_cell BK5.out 7).trans rfl, (blk_cell BK5.out 8).trans rfl, (blk_cell BK7.out 0).trans rfl, (blk_cell BK7.out 1).trans rfl, (blk_cell BK7.out 2).trans rfl, (blk_cell BK7.out 3).trans rfl, (blk_cell BK7.out 4).trans rfl, (blk_cell BK7.out 5).trans rfl, (blk_cell BK7.out 6).trans rfl, (blk_cell BK7.out 7).trans rfl, (blk_cell BK7.out 8).trans rfl, HX.out.c0⟩ (fun hHeld => ?_)
  refine with_tabW pr.tab8 pr.bits8 (fun HT_ HW_ => ?_)
  generalize (w5.alloc (.cells zeroP 23 (0, 0))).drew = w9 at BK5 BK7 HB HR HX hHeld ⊢
  refine take_ (i := 0) (N := some 34) (v := ?_) (a' := ?_) #[true, false, false, false, false, false, false, false, false, false, false, false, false, false, false, false, false, false, false, false, false, false, false, false, false, false, false, false, false, false] rfl rfl (take_ofW HT_.out HW_.out (by kernel_rfl)) (fun _ _ _ h => h) (Or.inl ⟨by rfl, ?_⟩) hHeld ?_ ?_
  rotate_left
  · rintro w' ⟨s0, s1, s2, s3, s4, s5, s6, s7, s8, s9, s10, s11, s12, s13, s14, s15, s16, s17, s18⟩
    go_simp
    with_reducible rfl
  rotate_left
  · simp only [Act.put, List.setIfInBounds_toArray, List.set_cons_zero, List.set_cons_succ, i64_w, i32_w]
    rfl
  refine take_ (i := 1) (N := some 35) (v := ?_) (a' := ?_) #[true, true, false, false, false, false, false, false, false, false, false, false, false, false, false, false, false, false, false, false, false, false, false, false, false, false, false, false, false, false] rfl rfl (take_ofW HT_.out HW_.out (by kernel_rfl)) (fun _ _ _ h => h) (Or.inl ⟨by rfl, ?_⟩) hHeld ?_ ?_
  rotate_left
  · rintro w' ⟨s0, s1, s2, s3, s4, s5, s6, s7, s8, s9, s10, s11, s12, s13, s14, s15, s16, s17, s18⟩
    go_simp
    with_reducible rfl
  rotate_left
  · simp only [Act.put, List.setIfInBounds_toArray, List.set_cons_zero, List.set_cons_succ, i64_w, i32_w]
    rfl
  refine pure_ (i := 2) (N := some 36) (v := ?_) (a' := ?_) #[true, true, true, false, false, false, false, false, false, false, false, false, false, false, false, false, false, false, false, false, false, false, false, false, false, false, false, false, false, false] rfl rfl (any_of HT_.out (by kernel_rfl)) (fun _ _ _ h => h) (Or.inl ⟨by rfl, ?_⟩) ?_ ?_
  rotate_left
  · intro w'
    go_simp
    with_reducible rfl
  rotate_left
  · simp only [Act.put, List.setIfInBounds_toArray, List.set_cons_zero, List.set_cons_succ, i64_w, i32_w]
    rfl
  refine pure_ (i := 3) (N := some 37) (v := ?_) (a' := ?_) #[true, true, true, true, false, false, false, false, false, false, false, false, false, false, false, false, false, false, false, false, false, false, false, false, false, false, false, false, false, false] rfl rfl (any_of HT_.out (by kernel_rfl)) (fun _ _ _ h => h) (Or.inl ⟨by rfl, ?_⟩) ?_ ?_
  rotate_left
  · intro w'
    go_simp
    with_reducible rfl
  rotate_left
  · simp only [Act.put, List.setIfInBounds_toArray, List.set_cons_zero, List.set_cons_succ, i64_w, i32_w]
    rfl
  refine pure_ (i := 4) (N := some 38) (v := ?_) (a' := ?_) #[true, true, true, true, true, false, false, false, false, false, false, false, false, false, false, false, false, false, false, false, false, false, false, false, false, false, false, false, false, false] rfl rfl (any_of HT_.out (by kernel_rfl)) (fun _ _ _ h => h) (Or.inl ⟨by rfl, ?_⟩) ?_ ?_
  rotate_left
  · intro w'
    go_simp
    with_reducible rfl
  rotate_left
  · simp only [Act.put, List.setIfInBounds_toArray, List.set_cons_zero, List.set_cons_succ, i64_w, i32_w]
    rfl
  refine pure_ (i := 5) (N := some 39) (v := ?_) (a' := ?_) #[true, true, true, true, true, true, false, false, false, false, false, false, false, false, false, false, false, false, false, false, false, false, false, false, false, false, false, false, false, false] rfl rfl (any_of HT_.out (by kernel_rfl)) (fun _ _ _ h => h) (Or.inl ⟨by rfl, ?_⟩) ?_ ?_
  rotate_left
  · intro w'
    go_simp
    with_reducible rfl
  rotate_left
  · simp only [Act.put, List.setIfInBounds_toArray, List.set_cons_zero, List.set_cons_succ, i64_w, i32_w]
    rfl
  refine pure_ (i := 6) (N := some 40) (v := ?_) (a' := ?_) #[true, true, true, true, true, true, true, false, false, false, false, false, false, false, false, false, false, false, false, false, false, false, false, false, false, false, false, false, false, false] rfl rfl (any_of HT_.out (by kernel_rfl)) (fun _ _ _ h => h) (Or.inl ⟨by rfl, ?_⟩) ?_ ?_
  rotate_left
  · intro w'
    go_simp
    with_reducible rfl
  rotate_left
  · simp only [Act.put, List.setIfInBounds_toArray, List.set_cons_zero, List.set_cons_succ, i64_w, i32_w]
    rfl
  refine pure_ (i := 7) (N := some 41) (v := ?_) (a' := ?_) #[true, true, true, true, true, true, true, true, false, false, false, false, false, false, false, false, false, false, false, false, false, false, false, false, false, false, false, false, false, false] rfl rfl (any_of HT_.out (by kernel_rfl)) (fun _ _ _ h => h) (Or.inl ⟨by rfl, ?_⟩) ?_ ?_
  rotate_left
  · intro w'
    go_simp
    with_reducible rfl
  rotate_left
  · simp only [Act.put, List.setIfInBounds_toArray, List.set_cons_zero, List.set_cons_succ, i64_w, i32_w]
    rfl
  refine pure_ (i := 8) (N := some 42) (v := ?_) (a' := ?_) #[true, true, true, true, true, true, true, true, true, false, false, false, false, false, false, false, false, false, false, false, false, false, false, false, false, false, false, false, false, false] rfl rfl (any_of HT_.out (by kernel_rfl)) (fun _ _ _ h => h) (Or.inl ⟨by rfl, ?_⟩) ?_ ?_
  rotate_left
  · intro w'
    go_simp
    with_reducible rfl
  rotate_left
  · simp only [Act.put, List.setIfInBounds_toArray, List.set_cons_zero, List.set_cons_succ, i64_w, i32_w]
    rfl
  refine pure_ (i := 9) (N := some 43) (v := ?_) (a' := ?_) #[true, true, true, true, true, true, true, true, true, true, false, false, false, false, false, false, false, false, false, false, false, false, false, false, false, false, false, false, false, false] rfl rfl (any_of HT_.out (by kernel_rfl)) (fun _ _ _ h => h) (Or.inl ⟨by rfl, ?_⟩) ?_ ?_
  rotate_left
  · intro w'
    go_simp
    with_reducible rfl
  rotate_left
  · simp only [Act.put, List.setIfInBounds_toArray, List.set_cons_zero, List.set_cons_succ, i64_w, i32_w]
    rfl
  refine pure_ (i := 10) (N := some 44) (v := ?_) (a' := ?_) #[true, true, true, true, true, true, true, true, true, true, true, false, false, false, false, false, false, false, false, false, false, false, false, false, false, false, false, false, false, false] rfl rfl (any_of HT_.out (by kernel_rfl)) (fun _ _ _ h => h) (Or.inl ⟨by rfl, ?_⟩) ?_ ?_
  rotate_left
  · intro w'
    go_simp
    with_reducible rfl
  rotate_left
  · simp only [Act.put, List.setIfInBounds_toArray, List.set_cons_zero, List.set_cons_succ, i64_w, i32_w]
    rfl
  refine pure_ (i := 11) (N := some 45) (v := ?_) (a' := ?_) #[true, true, true, true, true, true, true, true, true, true, true, true, false, false, false, false, false, false, false, false, false, false, false, false, false, false, false, false, false, false] rfl rfl (any_of HT_.out (by kernel_rfl)) (fun _ _ _ h => h) (Or.inl ⟨by rfl, ?_⟩) ?_ ?_
  rotate_left
  · intro w'
    go_simp
    with_reducible rfl
  rotate_left
  · simp only [Act.put, List.setIfInBounds_toArray, List.set_cons_zero, List.set_cons_succ, i64_w, i32_w]
    rfl
  refine pure_ (i := 12) (N := some 46) (v := ?_) (a' := ?_) #[true, true, true, true, true, true, true, true, true, true, true, true, true, false, false, false, false, false, false, false, false, false, false, false, false, false, false, false, false, false] rfl rfl (any_of HT_.out (by kernel_rfl)) (fun _ _ _ h => h) (Or.inl ⟨by rfl, ?_⟩) ?_ ?_
  rotate_left
  · intro w'
    go_simp
    with_reducible rfl
  rotate_left
  · simp only [Act.put, List.setIfInBounds_toArray, List.set_cons_zero, List.set_cons_succ, i64_w, i32_w]
    rfl
  refine pure_ (i := 13) (N := some 47) (v := ?_) (a' := ?_) #[true, true, true, true, true, true, true, true, true, true, true, true, true, true, false, false, false, false, false, false, false, false, false, false, false, false, false, false, false, false] rfl rfl (any_of HT_.out (by kernel_rfl)) (fun _ _ _ h => h) (Or.inl ⟨by rfl, ?_⟩) ?_ ?_
  rotate_left
  · intro w'
    go_simp
    with_reducible rfl
  rotate_left
  · simp only [Act.put, List.setIfInBounds_toArray, List.set_cons_zero, List.set_cons_succ, i64_w, i32_w]
    rfl
  refine pure_ (i := 14) (N := some 48) (v := ?_) (a' := ?_) #[true, true, true, true, true, true, true, true, true, true, true, true, true, true, true, false, false, false, false, false, false, false, false, false, false, false, false, false, false, false] rfl rfl (any_of HT_.out (by kernel_rfl)) (fun _ _ _ h => h) (Or.inl ⟨by rfl, ?_⟩) ?_ ?_
  rotate_left
  · intro w'
    go_simp
    with_reducible rfl
  rotate_left
  · simp only [Act.put, List.setIfInBounds_toArray, List.set_cons_zero, List.set_cons_succ, i64_w, i32_w]
    rfl
  refine pure_ (i := 15) (N := some 49) (v := ?_) (a' := ?_) #[true, true, true, true, true, true, true, true, true, true, true, true, true, true, true, true, false, false, false, false, false, false, false, false, false, false, false, false, false, false] rfl rfl (any_of HT_.out (by kernel_rfl)) (fun _ _ _ h => h) (Or.inl ⟨by rfl, ?_⟩) ?_ ?_
  rotate_left
  · intro w'
    go_simp
    with_reducible rfl
  rotate_left
  · simp only [Act.put, List.setIfInBounds_toArray, List.set_cons_zero, List.set_cons_succ, i64_w, i32_w]
    rfl
  refine pure_ (i := 16) (N := some 50) (v := ?_) (a' := ?_) #[true, true, true, true, true, true, true, true, true, true, true, true, true, true, true, true, true, false, false, false, false, false, false, false, false, false, false, false, false, false] rfl rfl (any_of HT_.out (by kernel_rfl)) (fun _ _ _ h => h) (Or.inl ⟨by rfl, ?_⟩) ?_ ?_
  rotate_left
  · intro w'
    go_simp
    with_reducible rfl
  rotate_left
  · simp only [Act.put, List.setIfInBounds_toArray, List.set_cons_zero, List.set_cons_succ, i64_w, i32_w]
    rfl
  refine pure_ (i := 18) (N := some 52) (v := ?_) (a' := ?_) #[true, true, true, true, true, true, true, true, true, true, true, true, true, true, true, true, true, false, true, false, false, false, false, false, false, false, false, false, false, false] rfl rfl (any_of HT_.out (by kernel_rfl)) (fun _ _ _ h => h) (Or.inl ⟨by rfl, ?_⟩) ?_ ?_
  rotate_left
  · intro w'
    go_simp
    with_reducible rfl
  rotate_left
  · simp only [Act.put, List.setIfInBounds_toArray, List.set_cons_zero, List.set_cons_succ, i64_w, i32_w]
    rfl
  refine pure_ (i := 19) (N := some 53) (v := ?_) (a' := ?_) #[true, true, true, true, true, true, true, true, true, true, true, true, true, true, true, true, true, false, true, true, false, false, false, false, false, false, false, false, false, false] rfl rfl (any_of HT_.out (by kernel_rfl)) (fun _ _ _ h => h) (Or.inl ⟨by rfl, ?_⟩) ?_ ?_
  rotate_left
  · intro w'
    go_simp
    with_reducible rfl
  rotate_left
  · simp only [Act.put, List.setIfInBounds_toArray, List.set_cons_zero, List.set_cons_succ, i64_w, i32_w]
    rfl
  refine pure_ (i := 20) (N := some 54) (v := ?_) (a' := ?_) #[true, true, true, true, true, true, true, true, true, true, true, true, true, true, true, true, true, false, true, true, true, false, false, false, false, false, false, false, false, false] rfl rfl (any_of HT_.out (by kernel_rfl)) (fun _ _ _ h => h) (Or.inl ⟨by rfl, ?_⟩) ?_ ?_
  rotate_left
  · intro w'
    go_simp
    with_reducible rfl
  rotate_left
  · simp only [Act.put, List.setIfInBounds_toArray, List.set_cons_zero, List.set_cons_succ, i64_w, i32_w]
    rfl
  refine take_ (i := 21) (N := some 55) (v := ?_) (a' := ?_) #[true, true, true, true, true, true, true, true, true, true, true, true, true, true, true, true, true, false, true, true, true, true, false, false, false, false, false, false, false, false] rfl rfl (take_ofW HT_.out HW_.out (by kernel_rfl)) (fun _ _ _ h => h) (Or.inl ⟨by rfl, ?_⟩) hHeld ?_ ?_
  rotate_left
  · rintro w' ⟨s0, s1, s2, s3, s4, s5, s6, s7, s8, s9, s10, s11, s12, s13, s14, s15, s16, s17, s18⟩
    go_simp
    with_reducible rfl
  rotate_left
  · simp only [Act.put, List.setIfInBounds_toArray, List.set_cons_zero, List.set_cons_succ, i64_w, i32_w]
    rfl
  refine pure_ (i := 22) (N := some 56) (v := ?_) (a' := ?_) #[true, true, true, true, true, true, true, true, true, true, true, true, true, true, true, true, true, false, true, true, true, true, true, false, false, false, false, false, false, false] rfl rfl (any_of HT_.out (by kernel_rfl)) (fun _ _ _ h => h) (Or.inl ⟨by rfl, ?_⟩) ?_ ?_
  rotate_left
  · intro w'
    go_simp
    with_reducible rfl
  rotate_left
  · simp only [Act.put, List.setIfInBounds_toArray, List.set_cons_zero, List.set_cons_succ, i64_w, i32_w]
    rfl
  refine one_ (i := 17) (N := some 51) #[true, true, true, true, true, true, true, true, true, true, true, true, true, true, true, true, true, true, true, true, true, true, true, false, false, false, false, false, false, false] rfl rfl (one_of HT_.out (by kernel_rfl)) (by decide) (fun K hK => ?_)
  refine goes_ Try.func47 (by kernel_rfl) rfl #[.pointer (some ⟨g, 0, none⟩)] (by rfl) rfl rfl (by (try simp only [List.map_toArray, List.map_cons, List.map_nil]); first | done | rfl) ?_
  with_reducible refine (Left.calls g _ _ _ HR.out).mono ?_
  rintro e w10 ⟨rfl, hb⟩
  refine ⟨_, rfl, ?_⟩
  have BK5_ := Aside0.mk (blk_below BK5.out hb)
  have BK7_ := Aside0.mk (blk_below BK7.out hb)
  have HB_ := Aside0.mk (below_step HB.out hb)
  have HX_ := Aside0.mk (HX.out.below hb)
  have HR_ := Aside0.mk (HR.out.below hb)
  clear hb BK5 BK7 HB HX HR
  have BK5 := BK5_
  have BK7 := BK7_
  have HB := HB_
  have HX := HX_
  have HR := HR_
  clear BK5_ BK7_ HB_ HX_ HR_
  refine hK.out _ _ ⟨(blk_cell BK5.out 0).trans rfl, (blk_cell BK5.out 1).trans rfl, (blk_cell BK5.out 2).trans rfl, (blk_cell BK5.out 3).trans rfl, (blk_cell BK5.out 4).trans rfl, (blk_cell BK5.out 5).trans rfl, (blk_cell BK5.out 6).trans rfl, (blk_cell BK5.out 7).trans rfl, (blk_cell BK5.out 8).trans rfl, (blk_cell BK7.out 0).trans rfl, (blk_cell BK7.out 1).trans rfl, (blk_cell BK7.out 2).trans rfl, (blk_cell BK7.out 3).trans rfl, (blk_cell BK7.out 4).trans rfl, (blk_cell BK7.out 5).trans rfl, (blk_cell BK7.out 6).trans rfl, (blk_cell BK7.out 7).trans rfl, (blk_cell BK7.out 8).trans rfl, HX.out.c0⟩ (fun hHeld => ?_)
  clear hK K
  refine norm_ (a' := ?_) ?_ ?_
  rotate_left
  · show Act.put _ (some 51) _ = _
    simp only [Act.put, List.setIfInBounds_toArray, List.set_cons_zero, List.set_cons_succ, i64_w, i32_w]
    rfl
  refine pure_ (i := 23) (N := some 57) (v := ?_) (a' := ?_) #[true, true, true, true, true, true, true, true, true, true, true, true, true, true, true, true, true, true, true, true, true, true, true, true, false, false, false, false, false, false] rfl rfl (any_of HT_.out (by kernel_rfl)) (fun _ _ _ h => h) (Or.inl ⟨by rfl, ?_⟩) ?_ ?_
  rotate_left
  · intro w'
    go_simp
    with_reducible rfl
  rotate_left
  · simp only [Act.put, List.setIfInBounds_toArray, List.set_cons_zero, List.set_cons_succ, i64_w, i32_w]
    rfl
  refine pure_ (i := 24) (N := some 58) (v := ?_) (a' := ?_) #[true, true, true, true, true, true, true, true, true, true, true, true, true, true, true, true, true, true, true, true, true, true, true, true, true, false, false, false, false, false] rfl rfl (any_of HT_.out (by kernel_rfl)) (fun _ _ _ h => h) (Or.inl ⟨by rfl, ?_⟩) ?_ ?_
  rotate_left
  · intro w'
    go_simp
    with_reducible rfl
  rotate_left
  · simp only [Act.put, List.setIfInBounds_toArray, List.set_cons_zero, List.set_cons_succ, i64_w, i32_w]
    rfl
  refine pure_ (i := 25) (N := some 59) (v := ?_) (a' := ?_) #[true, true, true, true, true, true, true, true, true, true, true, true, true, true, true, true, true, true, true, true, true, true, true, true, true, true, false, false, false, false] rfl rfl (any_of HT_.out (by kernel_rfl)) (fun _ _ _ h => h) (Or.inl ⟨by rfl, ?_⟩) ?_ ?_
  rotate_left
  · intro w'
    go_simp
    with_reducible rfl
  rotate_left
  · simp only [Act.put, List.setIfInBounds_toArray, List.set_cons_zero, List.set_cons_succ, i64_w, i32_w]
    rfl
  refine pure_ (i := 26) (N := some 60) (v := ?_) (a' := ?_) #[true, true, true, true, true, true, true, true, true, true, true, true, true, true, true, true, true, true, true, true, true, true, true, true, true, true, true, false, false, false] rfl rfl (any_of HT_.out (by kernel_rfl)) (fun _ _ _ h => h) (Or.inl ⟨by rfl, ?_⟩) ?_ ?_
  rotate_left
  · intro w'
    go_simp
    with_reducible rfl
  rotate_left
  · simp only [Act.put, List.setIfInBounds_toArray, List.set_cons_zero, List.set_cons_succ, i64_w, i32_w]
    rfl
  refine one_ (i := 27) (N := some 61) #[true, true, true, true, true, true, true, true, true, true, true, true, true, true, true, true, true, true, true, true, true, true, true, true, true, true, true, true, false, false] rfl rfl (one_of HT_.out (by kernel_rfl)) (by decide) (fun K hK => ?_)
  refine goes_ Try.func16 (by kernel_rfl) rfl #[] (by rfl) rfl rfl (by (try simp only [List.map_toArray, List.map_cons, List.map_nil]); first | done | rfl) ?_
  with_reducible refine (ossuarylaw18_alive.calls true _ HAL.out).mono ?_
  rintro e w11 ⟨rfl, hb⟩
  refine ⟨_, rfl, ?_⟩
  have BK5_ := Aside0.mk (blk_below BK5.out hb)
  have BK7_ := Aside0.mk (blk_below BK7.out hb)
  have HB_ := Aside0.mk (below_step HB.out hb)
  have HX_ := Aside0.mk (HX.out.below hb)
  have HR_ := Aside0.mk (HR.out.below hb)
  clear hb BK5 BK7 HB HX HR
  have BK5 := BK5_
  have BK7 := BK7_
  have HB := HB_
  have HX := HX_
  have HR := HR_
  clear BK5_ BK7_ HB_ HX_ HR_
  refine hK.out _ _ ⟨(blk_cell BK5.out 0).trans rfl, (blk_cell BK5.out 1).trans rfl, (blk_cell BK5.out 2).trans rfl, (blk_cell BK5.out 3).trans rfl, (blk_cell BK5.out 4).trans rfl, (blk_cell BK5.out 5).trans rfl, (blk_cell BK5.out 6).trans rfl, (blk_cell BK5.out 7).trans rfl, (blk_cell BK5.out 8).trans rfl, (blk_cell BK7.out 0).trans rfl, (blk_cell BK7.out 1).trans rfl, (blk_cell BK7.out 2).trans rfl, (blk_cell BK7.out 3).trans rfl, (blk_cell BK7.out 4).trans rfl, (blk_cell BK7.out 5).trans rfl, (blk_cell BK7.out 6).trans rfl, (blk_cell BK7.out 7).trans rfl, (blk_cell BK7.out 8).trans rfl, HX.out.c0⟩ (fun hHeld => ?_)
  clear hK K
  refine norm_ (a' := ?_) ?_ ?_
  rotate_left
  · show Act.put _ (some 61) _ = _
    simp only [Act.put, List.setIfInBounds_toArray, List.set_cons_zero, List.set_cons_succ, i64_w, i32_w]
    rfl
  refine pure_ (i := 28) (N := some 62) (v := ?_) (a' := ?_) #[true, true, true, true, true, true, true, true, true, true, true, true, true, true, true, true, true, true, true, true, true, true, true, true, true, true, true, true, true, false] rfl rfl (any_of HT_.out (by kernel_rfl)) (fun _ _ _ h => h) (Or.inl ⟨by rfl, ?_⟩) ?_ ?_
  rotate_left
  · intro w'
    go_simp
    with_reducible rfl
  rotate_left
  · simp only [Act.put, List.setIfInBounds_toArray, List.set_cons_zero, List.set_cons_succ, i64_w, i32_w]
    rfl
  refine pure_ (i := 29) (N := some 2) (v := ?_) (a' := ?_) #[true, true, true, true, true, true, true, true, true, true, true, true, true, true, true, true, true, true, true, true, true, true, true, true, true, true, true, true, true, true] rfl rfl (any_of HT_.out (by kernel_rfl)) (fun _ _ _ h => h) (Or.inl ⟨by rfl, ?_⟩) ?_ ?_
  rotate_left
  · intro w'
    go_simp
    with_reducible rfl
  rotate_left
  · simp only [Act.put, List.setIfInBounds_toArray, List.set_cons_zero, List.set_cons_succ, i64_w, i32_w]
    rfl
  refine done_ (done_of HT_.out (by kernel_rfl)) ?_

  go_wp2
  go_ret
  exact ⟨rfl, HB.out⟩
open Wr in
set_option maxHeartbeats 8000000 in
set_option maxRecDepth 100000 in
theorem pr.bad (A0 : Option Addr) (c0 : Nat) (b : List Int) (a0 a1 a2 a3 a4 a5 a6 a7 a8 F : Int) (k : Nat) (w : World) (hC : Kd.C (Kd.int .u8) w A0 b.length b) (hc : b.length ≤ c0) (hbd : ∀ x ∈ b, 0 ≤ x ∧ x < 256) (hb : b.length ≤ 200)
    (hres : resP (b, 0) = (polA a0 a1 a2 a3 a4 a5 a6 a7 a8, F)) (hF : F ≠ 0) (hne : ∀ ad, A0 = some ad → 0 < b.length → ad.block < w.heap.size) (hchk : ossuaryref18_Check.f k (cvS (b, 0) 9 0) (cvS (b, 0) 9 1) (cvS (b, 0) 9 2) (cvS (b, 0) 9 3) (cvS (b, 0) 9 4) (cvS (b, 0) 9 5) (cvS (b, 0) 9 6) (cvS (b, 0) 9 7) (cvS (b, 0) 9 8) = some (polC (b, 0))) (hal : ossuarylaw18_alive.f = some true) :
    Calls Try.prog 9 #[.slice A0 b.length c0] w fun e w' => e = .returned (.bool true) ∧ Below w.heap.size w w' := by
  have HC := Aside0.mk hC
  have HBD := Aside0.mk hbd
  have HRES := Aside0.mk hres
  have HCHK := Aside0.mk hchk
  have HAL := Aside0.mk hal
  have HNE := Aside0.mk hne
  clear hC hbd hres hchk hal hne
  have d1 : decide (200 < (b.length : Int)) = false := decide_eq_false (by omega)
  go_enter Try.func9, Try.ntmps9
  go_wp2_with fail
  refine (NewReader.calls A0 c0 b w HC.out hc (by omega)).mono ?_
  rintro e w1 ⟨g, rfl, hg, hr, hb1⟩
  have HX := Aside0.mk (show XdS w1.heap.size A0 c0 b 0 (w1.alloc (.cells #[.slice A0 b.length c0, .int .i64 0] 69 (0, 0))) from ⟨blk_new w1 _, hc, Kd.C_alloc (Kd.C_below HC.out hb1) _, fun ad e hp => by subst e; exact Nat.lt_of_lt_of_le (Kd.C_lt HC.out hp (by decide)) hb1.size⟩)
  have HR := Aside0.mk (hr.below ((Below.refl _ w1).alloc (Nat.le_refl _) (.cells #[.slice A0 b.length c0, .int .i64 0] 69 (0, 0))))
  have HB := Aside0.mk (hb1.alloc hb1.size (.cells #[.slice A0 b.length c0, .int .i64 0] 69 (0, 0)))
  have hgx : g < w1.heap.size := by obtain ⟨_, _, h⟩ := hr; exact blk_lt h.blk
  have hwx : w.heap.size ≤ w1.heap.size := hb1.size
  clear hr hb1 HC
  have hset := fun (W : World) => run_storeCells_new (P := Try.prog) W 23 #[.int .i64 0, .int .i64 0, .int .i64 0, .int .i64 0, .int .i64 0, .int .i64 0, .int .i64 0, .int .i64 0, .int .i64 0] (polA a0 a1 a2 a3 a4 a5 a6 a7 a8) (by kernel_rfl) rfl (by simp [polA, Value.oneCell'])
  have hset0 := fun (W : World) => run_storeCells_new (P := Try.prog) W 23 #[.int .i64 0, .int .i64 0, .int .i64 0, .int .i64 0, .int .i64 0, .int .i64 0, .int .i64 0, .int .i64 0, .int .i64 0] zeroP (by kernel_rfl) rfl (by simp [zeroP, polA, Value.oneCell'])
  have hne : ∀ ad, A0 = some ad → 0 < b.length → ad.block < w.heap.size := HNE.out
  go_wp2_with fail
  refine (policy_Read.calls w.heap.size g (b, 0) w _ HBD.out HB.out hg HR.out).mono ?_
  rw [HRES.out]
  rintro e w3 ⟨rfl, hr, hb3, hf⟩
  have HX3 := Aside0.mk (XdS.far HX.out hf (by omega) (fun ad e hp => by have := hne ad e hp; omega))
  have HR3 := Aside0.mk (RdP.below hr ((Below.refl _ w3).alloc (Nat.le_refl _) (.cells (polA a0 a1 a2 a3 a4 a5 a6 a7 a8) 23 (0, 0))))
  have HX4 := Aside0.mk (XdS.below HX3.out ((Below.refl _ w3).alloc (Nat.le_refl _) (.cells (polA a0 a1 a2 a3 a4 a5 a6 a7 a8) 23 (0, 0))))
  have HB3 := Aside0.mk (hb3.alloc hb3.size (.cells (polA a0 a1 a2 a3 a4 a5 a6 a7 a8) 23 (0, 0)))
  have BK5 := Aside0.mk (blk_new w3 (.cells (polA a0 a1 a2 a3 a4 a5 a6 a7 a8) 23 (0, 0)))
  have hx5 : w1.heap.size < w3.heap.size := blk_lt HX3.out.blk
  have hw3 : w.heap.size ≤ w3.heap.size := hb3.size
  clear hr hb3 hf HX HR HB HX3
  go_wp2_with fail
  refine (ref_Read.calls w.heap.size w1.heap.size k (b, 0) w _ HBD.out HB3.out hwx ⟨_, _, HX4.out⟩ HCHK.out).mono ?_
  rw [HRES.out]
  rintro e w4 ⟨rfl, hx, hb4, hf⟩
  have HR4 := Aside0.mk ((RdP.far HR3.out hf hgx).below ((Below.refl _ w4).alloc (Nat.le_refl _) (.cells (polA a0 a1 a2 a3 a4 a5 a6 a7 a8) 23 (0, 0))))
  have HX5 := Aside0.mk (XdP.below hx ((Below.refl _ w4).alloc (Nat.le_refl _) (.cells (polA a0 a1 a2 a3 a4 a5 a6 a7 a8) 23 (0, 0))))
  have BK5b := Aside0.mk (blk_alloc (hf.blk BK5.out (by omega)) (.cells (polA a0 a1 a2 a3 a4 a5 a6 a7 a8) 23 (0, 0)))
  have HB4 := Aside0.mk (hb4.alloc hb4.size (.cells (polA a0 a1 a2 a3 a4 a5 a6 a7 a8) 23 (0, 0)))
  have BK7 := Aside0.mk (blk_new w4 (.cells (polA a0 a1 a2 a3 a4 a5 a6 a7 a8) 23 (0, 0)))
  have hw4 : w.heap.size ≤ w4.heap.size := hb4.size
  clear hx hb4 hf HR3 HX4 HB3 BK5
  go_wp2_with fail
  refine (policy_Read_nil.calls _).mono ?_
  rintro e w5 ⟨rfl, hb⟩
  have hb' := hb.alloc hb.size (.cells zeroP 23 (0, 0))
  have HR := Aside0.mk (RdP.below HR4.out (below_drew1 hb'))
  have HX6 := Aside0.mk (XdP.below HX5.out (below_drew1 hb'))
  have HB5 := Aside0.mk (below_drew1 (HB4.out.trans (hb'.mono HB4.out.size)))
  have BK5 := Aside0.mk (blk_below BK5b.out (below_drew1 hb'))
  have BK7b := Aside0.mk (blk_below BK7.out (below_drew1 hb'))
  have hw5 : w.heap.size ≤ w5.heap.size := Nat.le_trans HB4.out.size hb.size
  clear hb hb' HR4 HX5 BK5b HB4 BK7
  try go_wp2_with fail
  clear hset hset0
  have BK7 := BK7b
  have HB := HB5
  clear BK7b HB5
  obtain ⟨AX, cx, hX6⟩ := HX6.out
  have HX := Aside0.mk hX6
  clear hX6 HX6
  have f1 : (F != 0) = true := bne_iff_ne.mpr hF
  refine start_ (n := 30) (S := fun w' => w'.cell? ⟨w3.heap.size, 0, none⟩ = some (.int .i64 a0) ∧ w'.cell? ⟨w3.heap.size, 1, none⟩ = some (.int .i64 a1) ∧ w'.cell? ⟨w3.heap.size, 2, none⟩ = some (.int .i64 a2) ∧ w'.cell? ⟨w3.heap.size, 3, none⟩ = some (.int .i64 a3) ∧ w'.cell? ⟨w3.heap.size, 4, none⟩ = some (.int .i64 a4) ∧ w'.cell? ⟨w3.heap.size, 5, none⟩ = some (.int .i64 a5) ∧ w'.cell? ⟨w3.heap.size, 6, none⟩ = some (.int .i64 a6) ∧ w'.cell? ⟨w3.heap.size, 7, none⟩ = some (.int .i64 a7) ∧ w'.cell? ⟨w3.heap.size, 8, none⟩ = some (.int .i64 a8) ∧ w'.cell? ⟨w4.heap.size, 0, none⟩ = some (.int .i64 a0) ∧ w'.cell? ⟨w4.heap.size, 1, none⟩ = some (.int .i64 a1) ∧ w'.cell? ⟨w4.heap.size, 2, none⟩ = some (.int .i64 a2) ∧ w'.cell? ⟨w4.heap.size, 3, none⟩ = some (.int .i64 a3) ∧ w'.cell? ⟨w4.heap.size, 4, none⟩ = some (.int .i64 a4) ∧ w'.cell? ⟨w4.heap.size, 5, none⟩ = some (.int .i64 a5) ∧ w'.cell? ⟨w4.heap.size, 6, none⟩ = some (.int .i64 a6) ∧ w'.cell? ⟨w4.heap.size, 7, none⟩ = some (.int .i64 a7) ∧ w'.cell? ⟨w4.heap.size, 8, none⟩ = some (.int .i64 a8)) (ds := []) #[false, false, false, false, false, false, false, false, false, false, false, false, false, false, false, false, false, false, false, false, false, false, false, false, false, false, false, false, false, false] (by kernel_rfl) rfl rfl ⟨(blk_cell BK5.out 0).trans rfl, (blk_cell BK5.out 1).trans rfl, (blk_cell BK5.out 2).trans rfl, (blk_cell BK5.out 3).trans rfl, (blk_cell BK5.out 4).trans rfl, (blk_cell BK5.out 5).trans rfl, (blk_cell BK5.out 6).trans rfl, (blk_cell BK5.out 7).trans rfl, (blk_cell BK5.out 8).trans rfl, (blk_cell BK7.out 0).trans rfl, (blk_cell BK7.out 1).trans rfl, (blk_cell BK7.out 2).trans rfl, (blk_cell BK7.out 3).trans rfl, (blk_cell BK7.out 4).trans rfl, (blk_cell BK7.out 5).trans rfl, (blk_cell BK7.out 6).trans rfl, (blk_cell BK7.out 7).trans rfl, (blk_cell BK7.out 8).trans rfl⟩ (fun hHeld => ?_)
  refine with_tabW pr.tab8 pr.bits8 (fun HT_ HW_ => ?_)
  generalize (w5.alloc (.cells zeroP 23 (0, 0))).drew = w9 at BK5 BK7 HB HR HX hHeld ⊢
  refine take_ (i := 0) (N := some 34) (v := ?_) (a' := ?_) #[true, false, false, false, false, false, false, false, false, false, false, false, false, false, false, false, false, false, false, false, false, false, false, false, false, false, false, false, false, false] rfl rfl (take_ofW HT_.out HW_.out (by kernel_rfl)) (fun _ _ _ h => h) (Or.inl ⟨by rfl, ?_⟩) hHeld ?_ ?_
  rotate_left
  · rintro w' ⟨s0, s1, s2, s3, s4, s5, s6, s7, s8, s9, s10, s11, s12, s13, s14, s15, s16, s17⟩
    go_simp
    with_reducible rfl
  rotate_left
  · simp only [Act.put, List.setIfInBounds_toArray, List.set_cons_zero, List.set_cons_succ, i64_w, i32_w]
    rfl
  refine take_ (i := 1) (N := some 35) (v := ?_) (a' := ?_) #[true, true, false, false, false, false, false, false, false, false, false, false, false, false, false, false, false, false, false, false, false, false, false, false, false, false, false, false, false, false] rfl rfl (take_ofW HT_.out HW_.out (by kernel_rfl)) (fun _ _ _ h => h) (Or.inl ⟨by rfl, ?_⟩) hHeld ?_ ?_
  rotate_left
  · rintro w' ⟨s0, s1, s2, s3, s4, s5, s6, s7, s8, s9, s10, s11, s12, s13, s14, s15, s16, s17⟩
    go_simp
    with_reducible rfl
  rotate_left
  · simp only [Act.put, List.setIfInBounds_toArray, List.set_cons_zero, List.set_cons_succ, i64_w, i32_w]
    rfl
  refine pure_ (i := 2) (N := some 36) (v := ?_) (a' := ?_) #[true, true, true, false, false, false, false, false, false, false, false, false, false, false, false, false, false, false, false, false, false, false, false, false, false, false, false, false, false, false] rfl rfl (any_of HT_.out (by kernel_rfl)) (fun _ _ _ h => h) (Or.inl ⟨by rfl, ?_⟩) ?_ ?_
  rotate_left
  · intro w'
    go_simp
    with_reducible rfl
  rotate_left
  · simp only [Act.put, List.setIfInBounds_toArray, List.set_cons_zero, List.set_cons_succ, i64_w, i32_w]
    rfl
  refine pure_ (i := 3) (N := some 37) (v := ?_) (a' := ?_) #[true, true, true, true, false, false, false, false, false, false, false, false, false, false, false, false, false, false, false, false, false, false, false, false, false, false, false, false, false, false] rfl rfl (any_of HT_.out (by kernel_rfl)) (fun _ _ _ h => h) (Or.inl ⟨by rfl, ?_⟩) ?_ ?_
  rotate_left
  · intro w'
    go_simp
    with_reducible rfl
  rotate_left
  · simp only [Act.put, List.setIfInBounds_toArray, List.set_cons_zero, List.set_cons_succ, i64_w, i32_w]
    rfl
  refine pure_ (i := 4) (N := some 38) (v := ?_) (a' := ?_) #[true, true, true, true, true, false, false, false, false, false, false, false, false, false, false, false, false, false, false, false, false, false, false, false, false, false, false, false, false, false] rfl rfl (any_of HT_.out (by kernel_rfl)) (fun _ _ _ h => h) (Or.inl ⟨by rfl, ?_⟩) ?_ ?_
  rotate_left
  · intro w'
    go_simp
    with_reducible rfl
  rotate_left
  · simp only [Act.put, List.setIfInBounds_toArray, List.set_cons_zero, List.set_cons_succ, i64_w, i32_w]
    rfl
  refine pure_ (i := 5) (N := some 39) (v := ?_) (a' := ?_) #[true, true, true, true, true, true, false, false, false, false, false, false, false, false, false, false, false, false, false, false, false, false, false, false, false, false, false, false, false, false] rfl rfl (any_of HT_.out (by kernel_rfl)) (fun _ _ _ h => h) (Or.inl ⟨by rfl, ?_⟩) ?_ ?_
  rotate_left
  · intro w'
    go_simp
    with_reducible rfl
  rotate_left
  · simp only [Act.put, List.setIfInBounds_toArray, List.set_cons_zero, List.set_cons_succ, i64_w, i32_w]
    rfl
  refine pure_ (i := 6) (N := some 40) (v := ?_) (a' := ?_) #[true, true, true, true, true, true, true, false, false, false, false, false, false, false, false, false, false, false, false, false, false, false, false, false, false, false, false, false, false, false] rfl rfl (any_of HT_.out (by kernel_rfl)) (fun _ _ _ h => h) (Or.inl ⟨by rfl, ?_⟩) ?_ ?_
  rotate_left
  · intro w'
    go_simp
    with_reducible rfl
  rotate_left
  · simp only [Act.put, List.setIfInBounds_toArray, List.set_cons_zero, List.set_cons_succ, i64_w, i32_w]
    rfl
  refine pure_ (i := 7) (N := some 41) (v := ?_) (a' := ?_) #[true, true, true, true, true, true, true, true, false, false, false, false, false, false, false, false, false, false, false, false, false, false, false, false, false, false, false, false, false, false] rfl rfl (any_of HT_.out (by kernel_rfl)) (fun _ _ _ h => h) (Or.inl ⟨by rfl, ?_⟩) ?_ ?_
  rotate_left
  · intro w'
    go_simp
    with_reducible rfl
  rotate_left
  · simp only [Act.put, List.setIfInBounds_toArray, List.set_cons_zero, List.set_cons_succ, i64_w, i32_w]
    rfl
  refine pure_ (i := 8) (N := some 42) (v := ?_) (a' := ?_) #[true, true, true, true, true, true, true, true, true, false, false, false, false, false, false, false, false, false, false, false, false, false, false, false, false, false, false, false, false, false] rfl rfl (any_of HT_.out (by kernel_rfl)) (fun _ _ _ h => h) (Or.inl ⟨by rfl, ?_⟩) ?_ ?_
  rotate_left
  · intro w'
    go_simp
    with_reducible rfl
  rotate_left
  · simp only [Act.put, List.setIfInBounds_toArray, List.set_cons_zero, List.set_cons_succ, i64_w, i32_w]
    rfl
  refine pure_ (i := 9) (N := some 43) (v := ?_) (a' := ?_) #[true, true, true, true, true, true, true, true, true, true, false, false, false, false, false, false, false, false, false, false, false, false, false, false, false, false, false, false, false, false] rfl rfl (any_of HT_.out (by kernel_rfl)) (fun _ _ _ h => h) (Or.inl ⟨by rfl, ?_⟩) ?_ ?_
  rotate_left
  · intro w'
    go_simp
    with_reducible rfl
  rotate_left
  · simp only [Act.put, List.setIfInBounds_toArray, List.set_cons_zero, List.set_cons_succ, i64_w, i32_w]
    rfl
  refine pure_ (i := 10) (N := some 44) (v := ?_) (a' := ?_) #[true, true, true, true, true, true, true, true, true, true, true, false, false, false, false, false, false, false, false, false, false, false, false, false, false, false, false, false, false, false] rfl rfl (any_of HT_.out (by kernel_rfl)) (fun _ _ _ h => h) (Or.inl ⟨by rfl, ?_⟩) ?_ ?_
  rotate_left
  · intro w'
    go_simp
    with_reducible rfl
  rotate_left
  · simp only [Act.put, List.setIfInBounds_toArray, List.set_cons_zero, List.set_cons_succ, i64_w, i32_w]
    rfl
  refine pure_ (i := 11) (N := some 45) (v := ?_) (a' := ?_) #[true, true, true, true, true, true, true, true, true, true, true, true, false, false, false, false, false, false, false, false, false, false, false, false, false, false, false, false, false, false] rfl rfl (any_of HT_.out (by kernel_rfl)) (fun _ _ _ h => h) (Or.inl ⟨by rfl, ?_⟩) ?_ ?_
  rotate_left
  · intro w'
    go_simp
    with_reducible rfl
  rotate_left
  · simp only [Act.put, List.setIfInBounds_toArray, List.set_cons_zero, List.set_cons_succ, i64_w, i32_w]
    rfl
  refine pure_ (i := 12) (N := some 46) (v := ?_) (a' := ?_) #[true, true, true, true, true, true, true, true, true, true, true, true, true, false, false, false, false, false, false, false, false, false, false, false, false, false, false, false, false, false] rfl rfl (any_of HT_.out (by kernel_rfl)) (fun _ _ _ h => h) (Or.inl ⟨by rfl, ?_⟩) ?_ ?_
  rotate_left
  · intro w'
    go_simp
    with_reducible rfl
  rotate_left
  · simp only [Act.put, List.setIfInBounds_toArray, List.set_cons_zero, List.set_cons_succ, i64_w, i32_w]
    rfl
  refine pure_ (i := 13) (N := some 47) (v := ?_) (a' := ?_) #[true, true, true, true, true, true, true, true, true, true, true, true, true, true, false, false, false, false, false, false, false, false, false, false, false, false, false, false, false, false] rfl rfl (any_of HT_.out (by kernel_rfl)) (fun _ _ _ h => h) (Or.inl ⟨by rfl, ?_⟩) ?_ ?_
  rotate_left
  · intro w'
    go_simp
    with_reducible rfl
  rotate_left
  · simp only [Act.put, List.setIfInBounds_toArray, List.set_cons_zero, List.set_cons_succ, i64_w, i32_w]
    rfl
  refine pure_ (i := 14) (N := some 48) (v := ?_) (a' := ?_) #[true, true, true, true, true, true, true, true, true, true, true, true, true, true, true, false, false, false, false, false, false, false, false, false, false, false, false, false, false, false] rfl rfl (any_of HT_.out (by kernel_rfl)) (fun _ _ _ h => h) (Or.inl ⟨by rfl, ?_⟩) ?_ ?_
  rotate_left
  · intro w'
    go_simp
    with_reducible rfl
  rotate_left
  · simp only [Act.put, List.setIfInBounds_toArray, List.set_cons_zero, List.set_cons_succ, i64_w, i32_w]
    rfl
  refine pure_ (i := 15) (N := some 49) (v := ?_) (a' := ?_) #[true, true, true, true, true, true, true, true, true, true, true, true, true, true, true, true, false, false, false, false, false, false, false, false, false, false, false, false, false, false] rfl rfl (any_of HT_.out (by kernel_rfl)) (fun _ _ _ h => h) (Or.inl ⟨by rfl, ?_⟩) ?_ ?_
  rotate_left
  · intro w'
    go_simp
    with_reducible rfl
  rotate_left
  · simp only [Act.put, List.setIfInBounds_toArray, List.set_cons_zero, List.set_cons_succ, i64_w, i32_w]
    rfl
  refine pure_ (i := 16) (N := some 50) (v := undef) (a' := ?_) #[true, true, true, true, true, true, true, true, true, true, true, true, true, true, true, true, true, false, false, false, false, false, false, false, false, false, false, false, false, false] rfl rfl (any_of HT_.out (by kernel_rfl)) (fun _ _ _ h => h) (Or.inr ⟨by rfl, rfl⟩) ?_ ?_
  rotate_left
  · simp only [Act.put, List.setIfInBounds_toArray, List.set_cons_zero, List.set_cons_succ, i64_w, i32_w]
    rfl
  refine pure_ (i := 17) (N := some 51) (v := undef) (a' := ?_) #[true, true, true, true, true, true, true, true, true, true, true, true, true, true, true, true, true, true, false, false, false, false, false, false, false, false, false, false, false, false] rfl rfl (any_of HT_.out (by kernel_rfl)) (fun _ _ _ h => h) (Or.inr ⟨by rfl, rfl⟩) ?_ ?_
  rotate_left
  · simp only [Act.put, List.setIfInBounds_toArray, List.set_cons_zero, List.set_cons_succ, i64_w, i32_w]
    rfl
  refine pure_ (i := 18) (N := some 52) (v := undef) (a' := ?_) #[true, true, true, true, true, true, true, true, true, true, true, true, true, true, true, true, true, true, true, false, false, false, false, false, false, false, false, false, false, false] rfl rfl (any_of HT_.out (by kernel_rfl)) (fun _ _ _ h => h) (Or.inr ⟨by rfl, rfl⟩) ?_ ?_
  rotate_left
  · simp only [Act.put, List.setIfInBounds_toArray, List.set_cons_zero, List.set_cons_succ, i64_w, i32_w]
    rfl
  refine pure_ (i := 19) (N := some 53) (v := undef) (a' := ?_) #[true, true, true, true, true, true, true, true, true, true, true, true, true, true, true, true, true, true, true, true, false, false, false, false, false, false, false, false, false, false] rfl rfl (any_of HT_.out (by kernel_rfl)) (fun _ _ _ h => h) (Or.inr ⟨by rfl, rfl⟩) ?_ ?_
  rotate_left
  · simp only [Act.put, List.setIfInBounds_toArray, List.set_cons_zero, List.set_cons_succ, i64_w, i32_w]
    rfl
  refine pure_ (i := 20) (N := some 54) (v := undef) (a' := ?_) #[true, true, true, true, true, true, true, true, true, true, true, true, true, true, true, true, true, true, true, true, true, false, false, false, false, false, false, false, false, false] rfl rfl (any_of HT_.out (by kernel_rfl)) (fun _ _ _ h => h) (Or.inr ⟨by rfl, rfl⟩) ?_ ?_
  rotate_left
  · simp only [Act.put, List.setIfInBounds_toArray, List.set_cons_zero, List.set_cons_succ, i64_w, i32_w]
    rfl
  refine pure_ (i := 21) (N := some 55) (v := undef) (a' := ?_) #[true, true, true, true, true, true, true, true, true, true, true, true, true, true, true, true, true, true, true, true, true, true, false, false, false, false, false, false, false, false] rfl rfl (any_of HT_.out (by kernel_rfl)) (fun _ _ _ h => h) (Or.inr ⟨by rfl, rfl⟩) ?_ ?_
  rotate_left
  · simp only [Act.put, List.setIfInBounds_toArray, List.set_cons_zero, List.set_cons_succ, i64_w, i32_w]
    rfl
  refine pure_ (i := 22) (N := some 56) (v := undef) (a' := ?_) #[true, true, true, true, true, true, true, true, true, true, true, true, true, true, true, true, true, true, true, true, true, true, true, false, false, false, false, false, false, false] rfl rfl (any_of HT_.out (by kernel_rfl)) (fun _ _ _ h => h) (Or.inr ⟨by rfl, rfl⟩) ?_ ?_
  rotate_left
  · simp only [Act.put, List.setIfInBounds_toArray, List.set_cons_zero, List.set_cons_succ, i64_w, i32_w]
    rfl
  refine pure_ (i := 23) (N := some 57) (v := undef) (a' := ?_) #[true, true, true, true, true, true, true, true, true, true, true, true, true, true, true, true, true, true, true, true, true, true, true, true, false, false, false, false, false, false] rfl rfl (any_of HT_.out (by kernel_rfl)) (fun _ _ _ h => h) (Or.inr ⟨by rfl, rfl⟩) ?_ ?_
  rotate_left
  · simp only [Act.put, List.setIfInBounds_toArray, List.set_cons_zero, List.set_cons_succ, i64_w, i32_w]
    rfl
  refine pure_ (i := 24) (N := some 58) (v := ?_) (a' := ?_) #[true, true, true, true, true, true, true, true, true, true, true, true, true, true, true, true, true, true, true, true, true, true, true, true, true, false, false, false, false, false] rfl rfl (any_of HT_.out (by kernel_rfl)) (fun _ _ _ h => h) (Or.inl ⟨by rfl, ?_⟩) ?_ ?_
  rotate_left
  · intro w'
    go_simp
    with_reducible rfl
  rotate_left
  · simp only [Act.put, List.setIfInBounds_toArray, List.set_cons_zero, List.set_cons_succ, i64_w, i32_w]
    rfl
  refine pure_ (i := 25) (N := some 59) (v := ?_) (a' := ?_) #[true, true, true, true, true, true, true, true, true, true, true, true, true, true, true, true, true, true, true, true, true, true, true, true, true, true, false, false, false, false] rfl rfl (any_of HT_.out (by kernel_rfl)) (fun _ _ _ h => h) (Or.inl ⟨by rfl, ?_⟩) ?_ ?_
  rotate_left
  · intro w'
    go_simp
    with_reducible rfl
  rotate_left
  · simp only [Act.put, List.setIfInBounds_toArray, List.set_cons_zero, List.set_cons_succ, i64_w, i32_w]
    rfl
  refine pure_ (i := 26) (N := some 60) (v := ?_) (a' := ?_) #[true, true, true, true, true, true, true, true, true, true, true, true, true, true, true, true, true, true, true, true, true, true, true, true, true, true, true, false, false, false] rfl rfl (any_of HT_.out (by kernel_rfl)) (fun _ _ _ h => h) (Or.inl ⟨by rfl, ?_⟩) ?_ ?_
  rotate_left
  · intro w'
    go_simp
    with_reducible rfl
  rotate_left
  · simp only [Act.put, List.setIfInBounds_toArray, List.set_cons_zero, List.set_cons_succ, i64_w, i32_w]
    rfl
  refine one_ (i := 27) (N := some 61) #[true, true, true, true, true, true, true, true, true, true, true, true, true, true, true, true, true, true, true, true, true, true, true, true, true, true, true, true, false, false] rfl rfl (one_of HT_.out (by kernel_rfl)) (by decide) (fun K hK => ?_)
  refine goes_ Try.func16 (by kernel_rfl) rfl #[] (by rfl) rfl rfl (by (try simp only [List.map_toArray, List.map_cons, List.map_nil]); first | done | rfl) ?_
  with_reducible refine (ossuarylaw18_alive.calls true _ HAL.out).mono ?_
  rintro e w11 ⟨rfl, hb⟩
  refine ⟨_, rfl, ?_⟩
  have BK5_ := Aside0.mk (blk_below BK5.out hb)
  have BK7_ := Aside0.mk (blk_below BK7.out hb)
  have HB_ := Aside0.mk (below_step HB.out hb)
  clear hb BK5 BK7 HB
  have BK5 := BK5_
  have BK7 := BK7_
  have HB := HB_
  clear BK5_ BK7_ HB_
  refine hK.out _ _ ⟨(blk_cell BK5.out 0).trans rfl, (blk_cell BK5.out 1).trans rfl, (blk_cell BK5.out 2).trans rfl, (blk_cell BK5.out 3).trans rfl, (blk_cell BK5.out 4).trans rfl, (blk_cell BK5.out 5).trans rfl, (blk_cell BK5.out 6).trans rfl, (blk_cell BK5.out 7).trans rfl, (blk_cell BK5.out 8).trans rfl, (blk_cell BK7.out 0).trans rfl, (blk_cell BK7.out 1).trans rfl, (blk_cell BK7.out 2).trans rfl, (blk_cell BK7.out 3).trans rfl, (blk_cell BK7.out 4).trans rfl, (blk_cell BK7.out 5).trans rfl, (blk_cell BK7.out 6).trans rfl, (blk_cell BK7.out 7).trans rfl, (blk_cell BK7.out 8).trans rfl⟩ (fun hHeld => ?_)
  clear hK K
  refine norm_ (a' := ?_) ?_ ?_
  rotate_left
  · show Act.put _ (some 61) _ = _
    simp only [Act.put, List.setIfInBounds_toArray, List.set_cons_zero, List.set_cons_succ, i64_w, i32_w]
    rfl
  refine pure_ (i := 28) (N := some 62) (v := ?_) (a' := ?_) #[true, true, true, true, true, true, true, true, true, true, true, true, true, true, true, true, true, true, true, true, true, true, true, true, true, true, true, true, true, false] rfl rfl (any_of HT_.out (by kernel_rfl)) (fun _ _ _ h => h) (Or.inl ⟨by rfl, ?_⟩) ?_ ?_
  rotate_left
  · intro w'
    go_simp
    with_reducible rfl
  rotate_left
  · simp only [Act.put, List.setIfInBounds_toArray, List.set_cons_zero, List.set_cons_succ, i64_w, i32_w]
    rfl
  refine pure_ (i := 29) (N := some 2) (v := ?_) (a' := ?_) #[true, true, true, true, true, true, true, true, true, true, true, true, true, true, true, true, true, true, true, true, true, true, true, true, true, true, true, true, true, true] rfl rfl (any_of HT_.out (by kernel_rfl)) (fun _ _ _ h => h) (Or.inl ⟨by rfl, ?_⟩) ?_ ?_
  rotate_left
  · intro w'
    go_simp
    with_reducible rfl
  rotate_left
  · simp only [Act.put, List.setIfInBounds_toArray, List.set_cons_zero, List.set_cons_succ, i64_w, i32_w]
    rfl
  refine done_ (done_of HT_.out (by kernel_rfl)) ?_

  go_wp2
  go_ret
  exact ⟨rfl, HB.out⟩
end Go.Proofs.Ytjegkfdcelodeaa.P
