import Derived.Test.YtiokjjadpobciaaDr7
namespace Go.Proofs.Ytiokjjadpobciaa.P
open Go.RowKit Go.Conc Go.Proofs.YtiokjjadpobciaaW.PrintWords Go.Proofs.YtiokjjadpobciaaW.PrintLast Go.Proofs.YtiokjjadpobciaaW.PrintMore
attribute [local go_sem] max2_int min2_int max_two min_two max_three min_three max_four min_four
set_option linter.unusedVariables false
set_option linter.unusedSimpArgs false
namespace Dr
open Ln
theorem eq58t (W : World) : (Op.equalIn 9999 58 (.agg #[.bool true, .bool false, .bool false, .bool false]) (.agg #[.bool true, .bool false, .bool false, .bool false])).run Try.prog W = .ok true W :=
  eq_arr4 W 9998 Try.underlying58 (by kernel_rfl) (by kernel_rfl) (by kernel_rfl) _ _ _ _ _ _ _ _ true true true true (run_equalIn_bool' W 9997 4 true true Try.underlying4) (run_equalIn_bool' W 9997 4 false false Try.underlying4) (run_equalIn_bool' W 9997 4 false false Try.underlying4) (run_equalIn_bool' W 9997 4 false false Try.underlying4)
set_option maxHeartbeats 8000000 in
set_option maxRecDepth 100000 in
theorem clo_plain.calls (k n : Int) (fs : List Fa) (fl : List Bool) (A1 A2 B1 B2 : Option Addr) (c1 c2 e1 e2 : Nat) (w : World) (hf1 : Kd.C factK w A1 fs.length fs) (hf2 : Kd.C factK w A2 fs.length fs) (hb1 : Kd.C Kd.bool w B1 fl.length fl) (hb2 : Kd.C Kd.bool w B2 fl.length fl) (hl : fs.length ≤ 100000) (hm : fl.length ≤ 100000) :
    Calls Try.prog 39 #[.agg #[.int .i64 k, .int .i64 n, .slice A1 fs.length c1, .int .i64 0, .int .i64 0, .bool false, .bool false, .bool false, .bool false, .bool false, .bool false, .bool false, .bool false, .string { data := #[] }, .string { data := #[] }, .string { data := #[] }, .string { data := #[] }, .int .i64 0, .int .i64 0, .int .i64 0, .int .i64 0, .int .i64 0, .int .i64 0, .int .i64 0, .int .i64 0, .int .i64 0, .slice B1 fl.length e1], .agg #[.int .i64 k, .int .i64 n, .slice A2 fs.length c2, .int .i64 0, .int .i64 0, .bool false, .bool false, .bool false, .bool false, .bool false, .bool false, .bool false, .bool false, .string { data := #[] }, .string { data := #[] }, .string { data := #[] }, .string { data := #[] }, .int .i64 0, .int .i64 0, .int .i64 0, .int .i64 0, .int .i64 0, .int .i64 0, .int .i64 0, .int .i64 0, .int .i64 0, .slice B2 fl.length e2]] w fun e w' => e = .returned (.bool true) ∧ Below w.heap.size w w' := by
  have b1 : Below w.heap.size w ((w.alloc (.cells #[.int .i64 k, .int .i64 n, .slice A1 fs.length c1, .int .i64 0, .int .i64 0, .bool false, .bool false, .bool false, .bool false, .bool false, .bool false, .bool false, .bool false, .string { data := #[] }, .string { data := #[] }, .string { data := #[] }, .string { data := #[] }, .int .i64 0, .int .i64 0, .int .i64 0, .int .i64 0, .int .i64 0, .int .i64 0, .int .i64 0, .int .i64 0, .int .i64 0, .slice B1 fl.length e1] 66 (0, 0))).alloc (.cells #[.int .i64 k, .int .i64 n, .slice A2 fs.length c2, .int .i64 0, .int .i64 0, .bool false, .bool false, .bool false, .bool false, .bool false, .bool false, .bool false, .bool false, .string { data := #[] }, .string { data := #[] }, .string { data := #[] }, .string { data := #[] }, .int .i64 0, .int .i64 0, .int .i64 0, .int .i64 0, .int .i64 0, .int .i64 0, .int .i64 0, .int .i64 0, .int .i64 0, .slice B2 fl.length e2] 66 (0, 0))) := ((Below.refl _ w).alloc (Nat.le_refl _) _).alloc (by simp) _
  have HF1 := Aside0.mk (Kd.C_below hf1 b1)
  have HF2 := Aside0.mk (Kd.C_below hf2 b1)
  have HB1 := Aside0.mk (Kd.C_below hb1 b1)
  have HB2 := Aside0.mk (Kd.C_below hb2 b1)
  have HW := Aside0.mk b1
  clear hf1 hf2 hb1 hb2 b1
  have q1 := eq58f
  have q2 := eq58t
  have q3 := eq59f
  have c58 : Try.prog.cellsOf 58 = 4 := by kernel_rfl
  have c59 : Try.prog.cellsOf 59 = 4 := by kernel_rfl
  have k1 : (k == k) = true := by simp
  have k2 : (n == n) = true := by simp
  go_enter Try.func39, Try.ntmps39
  go_wp2_with fail
  refine (EqualF.calls A1 A2 c1 c2 fs _ HF1.out HF2.out hl).mono ?_
  rintro e w2 ⟨rfl, hb⟩
  have HB1b := Aside0.mk (Kd.C_below HB1.out hb)
  have HB2b := Aside0.mk (Kd.C_below HB2.out hb)
  have HW2 := Aside0.mk (below_step HW.out hb)
  have X1 := Aside0.mk (blk_below (blk_alloc (blk_new w (.cells #[.int .i64 k, .int .i64 n, .slice A1 fs.length c1, .int .i64 0, .int .i64 0, .bool false, .bool false, .bool false, .bool false, .bool false, .bool false, .bool false, .bool false, .string { data := #[] }, .string { data := #[] }, .string { data := #[] }, .string { data := #[] }, .int .i64 0, .int .i64 0, .int .i64 0, .int .i64 0, .int .i64 0, .int .i64 0, .int .i64 0, .int .i64 0, .int .i64 0, .slice B1 fl.length e1] 66 (0, 0))) (.cells #[.int .i64 k, .int .i64 n, .slice A2 fs.length c2, .int .i64 0, .int .i64 0, .bool false, .bool false, .bool false, .bool false, .bool false, .bool false, .bool false, .bool false, .string { data := #[] }, .string { data := #[] }, .string { data := #[] }, .string { data := #[] }, .int .i64 0, .int .i64 0, .int .i64 0, .int .i64 0, .int .i64 0, .int .i64 0, .int .i64 0, .int .i64 0, .int .i64 0, .slice B2 fl.length e2] 66 (0, 0))) hb)
  have X2 := Aside0.mk (blk_below (show ((w.alloc (.cells #[.int .i64 k, .int .i64 n, .slice A1 fs.length c1, .int .i64 0, .int .i64 0, .bool false, .bool false, .bool false, .bool false, .bool false, .bool false, .bool false, .bool false, .string { data := #[] }, .string { data := #[] }, .string { data := #[] }, .string { data := #[] }, .int .i64 0, .int .i64 0, .int .i64 0, .int .i64 0, .int .i64 0, .int .i64 0, .int .i64 0, .int .i64 0, .int .i64 0, .slice B1 fl.length e1] 66 (0, 0))).alloc (.cells #[.int .i64 k, .int .i64 n, .slice A2 fs.length c2, .int .i64 0, .int .i64 0, .bool false, .bool false, .bool false, .bool false, .bool false, .bool false, .bool false, .bool false, .string { data := #[] }, .string { data := #[] }, .string { data := #[] }, .string { data := #[] }, .int .i64 0, .int .i64 0, .int .i64 0, .int .i64 0, .int .i64 0, .int .i64 0, .int .i64 0, .int .i64 0, .int .i64 0, .slice B2 fl.length e2] 66 (0, 0))).heap[w.heap.size + 1]? = some (.cells #[.int .i64 k, .int .i64 n, .slice A2 fs.length c2, .int .i64 0, .int .i64 0, .bool false, .bool false, .bool false, .bool false, .bool false, .bool false, .bool false, .bool false, .string { data := #[] }, .string { data := #[] }, .string { data := #[] }, .string { data := #[] }, .int .i64 0, .int .i64 0, .int .i64 0, .int .i64 0, .int .i64 0, .int .i64 0, .int .i64 0, .int .i64 0, .int .i64 0, .slice B2 fl.length e2] 66 (0, 0)) by simpa using blk_new (w.alloc (.cells #[.int .i64 k, .int .i64 n, .slice A1 fs.length c1, .int .i64 0, .int .i64 0, .bool false, .bool false, .bool false, .bool false, .bool false, .bool false, .bool false, .bool false, .string { data := #[] }, .string { data := #[] }, .string { data := #[] }, .string { data := #[] }, .int .i64 0, .int .i64 0, .int .i64 0, .int .i64 0, .int .i64 0, .int .i64 0, .int .i64 0, .int .i64 0, .int .i64 0, .slice B1 fl.length e1] 66 (0, 0))) (.cells #[.int .i64 k, .int .i64 n, .slice A2 fs.length c2, .int .i64 0, .int .i64 0, .bool false, .bool false, .bool false, .bool false, .bool false, .bool false, .bool false, .bool false, .string { data := #[] }, .string { data := #[] }, .string { data := #[] }, .string { data := #[] }, .int .i64 0, .int .i64 0, .int .i64 0, .int .i64 0, .int .i64 0, .int .i64 0, .int .i64 0, .int .i64 0, .int .i64 0, .slice B2 fl.length e2] 66 (0, 0))) hb)
  clear hb HB1 HB2 HW HF1 HF2 q1 q2 q3
  have y1 := blk_cell X1.out 26
  have y2 := blk_cell X2.out 26
  simp only [List.getElem?_toArray, List.getElem?_cons_zero, List.getElem?_cons_succ] at y1 y2
  go_wp2_with fail
  refine (EqualB.calls B1 B2 e1 e2 fl _ HB1b.out HB2b.out hm).mono ?_
  rintro e w3 ⟨rfl, hb⟩
  have HW3 := Aside0.mk (below_step HW2.out hb)
  clear hb
  go_wp2
  go_ret
  exact ⟨rfl, HW3.out⟩
set_option maxHeartbeats 8000000 in
set_option maxRecDepth 100000 in
theorem clo_query.calls (k n : Int) (fs : List Fa) (fl : List Bool) (A1 A2 B1 B2 : Option Addr) (c1 c2 e1 e2 : Nat) (w : World) (hf1 : Kd.C factK w A1 fs.length fs) (hf2 : Kd.C factK w A2 fs.length fs) (hb1 : Kd.C Kd.bool w B1 fl.length fl) (hb2 : Kd.C Kd.bool w B2 fl.length fl) (hl : fs.length ≤ 100000) (hm : fl.length ≤ 100000) :
    Calls Try.prog 39 #[.agg #[.int .i64 k, .int .i64 n, .slice A1 fs.length c1, .int .i64 0, .int .i64 16777217, .bool true, .bool false, .bool false, .bool false, .bool false, .bool false, .bool false, .bool false, .string { data := #[] }, .string { data := #[] }, .string { data := #[] }, .string { data := #[] }, .int .i64 0, .int .i64 0, .int .i64 0, .int .i64 0, .int .i64 0, .int .i64 0, .int .i64 0, .int .i64 0, .int .i64 0, .slice B1 fl.length e1], .agg #[.int .i64 k, .int .i64 n, .slice A2 fs.length c2, .int .i64 0, .int .i64 16777217, .bool true, .bool false, .bool false, .bool false, .bool false, .bool false, .bool false, .bool false, .string { data := #[] }, .string { data := #[] }, .string { data := #[] }, .string { data := #[] }, .int .i64 0, .int .i64 0, .int .i64 0, .int .i64 0, .int .i64 0, .int .i64 0, .int .i64 0, .int .i64 0, .int .i64 0, .slice B2 fl.length e2]] w fun e w' => e = .returned (.bool true) ∧ Below w.heap.size w w' := by
  have b1 : Below w.heap.size w ((w.alloc (.cells #[.int .i64 k, .int .i64 n, .slice A1 fs.length c1, .int .i64 0, .int .i64 16777217, .bool true, .bool false, .bool false, .bool false, .bool false, .bool false, .bool false, .bool false, .string { data := #[] }, .string { data := #[] }, .string { data := #[] }, .string { data := #[] }, .int .i64 0, .int .i64 0, .int .i64 0, .int .i64 0, .int .i64 0, .int .i64 0, .int .i64 0, .int .i64 0, .int .i64 0, .slice B1 fl.length e1] 66 (0, 0))).alloc (.cells #[.int .i64 k, .int .i64 n, .slice A2 fs.length c2, .int .i64 0, .int .i64 16777217, .bool true, .bool false, .bool false, .bool false, .bool false, .bool false, .bool false, .bool false, .string { data := #[] }, .string { data := #[] }, .string { data := #[] }, .string { data := #[] }, .int .i64 0, .int .i64 0, .int .i64 0, .int .i64 0, .int .i64 0, .int .i64 0, .int .i64 0, .int .i64 0, .int .i64 0, .slice B2 fl.length e2] 66 (0, 0))) := ((Below.refl _ w).alloc (Nat.le_refl _) _).alloc (by simp) _
  have HF1 := Aside0.mk (Kd.C_below hf1 b1)
  have HF2 := Aside0.mk (Kd.C_below hf2 b1)
  have HB1 := Aside0.mk (Kd.C_below hb1 b1)
  have HB2 := Aside0.mk (Kd.C_below hb2 b1)
  have HW := Aside0.mk b1
  clear hf1 hf2 hb1 hb2 b1
  have q1 := eq58f
  have q2 := eq58t
  have q3 := eq59f
  have c58 : Try.prog.cellsOf 58 = 4 := by kernel_rfl
  have c59 : Try.prog.cellsOf 59 = 4 := by kernel_rfl
  have k1 : (k == k) = true := by simp
  have k2 : (n == n) = true := by simp
  go_enter Try.func39, Try.ntmps39
  go_wp2_with fail
  refine (EqualF.calls A1 A2 c1 c2 fs _ HF1.out HF2.out hl).mono ?_
  rintro e w2 ⟨rfl, hb⟩
  have HB1b := Aside0.mk (Kd.C_below HB1.out hb)
  have HB2b := Aside0.mk (Kd.C_below HB2.out hb)
  have HW2 := Aside0.mk (below_step HW.out hb)
  have X1 := Aside0.mk (blk_below (blk_alloc (blk_new w (.cells #[.int .i64 k, .int .i64 n, .slice A1 fs.length c1, .int .i64 0, .int .i64 16777217, .bool true, .bool false, .bool false, .bool false, .bool false, .bool false, .bool false, .bool false, .string { data := #[] }, .string { data := #[] }, .string { data := #[] }, .string { data := #[] }, .int .i64 0, .int .i64 0, .int .i64 0, .int .i64 0, .int .i64 0, .int .i64 0, .int .i64 0, .int .i64 0, .int .i64 0, .slice B1 fl.length e1] 66 (0, 0))) (.cells #[.int .i64 k, .int .i64 n, .slice A2 fs.length c2, .int .i64 0, .int .i64 16777217, .bool true, .bool false, .bool false, .bool false, .bool false, .bool false, .bool false, .bool false, .string { data := #[] }, .string { data := #[] }, .string { data := #[] }, .string { data := #[] }, .int .i64 0, .int .i64 0, .int .i64 0, .int .i64 0, .int .i64 0, .int .i64 0, .int .i64 0, .int .i64 0, .int .i64 0, .slice B2 fl.length e2] 66 (0, 0))) hb)
  have X2 := Aside0.mk (blk_below (show ((w.alloc (.cells #[.int .i64 k, .int .i64 n, .slice A1 fs.length c1, .int .i64 0, .int .i64 16777217, .bool true, .bool false, .bool false, .bool false, .bool false, .bool false, .bool false, .bool false, .string { data := #[] }, .string { data := #[] }, .string { data := #[] }, .string { data := #[] }, .int .i64 0, .int .i64 0, .int .i64 0, .int .i64 0, .int .i64 0, .int .i64 0, .int .i64 0, .int .i64 0, .int .i64 0, .slice B1 fl.length e1] 66 (0, 0))).alloc (.cells #[.int .i64 k, .int .i64 n, .slice A2 fs.length c2, .int .i64 0, .int .i64 16777217, .bool true, .bool false, .bool false, .bool false, .bool false, .bool false, .bool false, .bool false, .string { data := #[] }, .string { data := #[] }, .string { data := #[] }, .string { data := #[] }, .int .i64 0, .int .i64 0, .int .i64 0, .int .i64 0, .int .i64 0, .int .i64 0, .int .i64 0, .int .i64 0, .int .i64 0, .slice B2 fl.length e2] 66 (0, 0))).heap[w.heap.size + 1]? = some (.cells #[.int .i64 k, .int .i64 n, .slice A2 fs.length c2, .int .i64 0, .int .i64 16777217, .bool true, .bool false, .bool false, .bool false, .bool false, .bool false, .bool false, .bool false, .string { data := #[] }, .string { data := #[] }, .string { data := #[] }, .string { data := #[] }, .int .i64 0, .int .i64 0, .int .i64 0, .int .i64 0, .int .i64 0, .int .i64 0, .int .i64 0, .int .i64 0, .int .i64 0, .slice B2 fl.length e2] 66 (0, 0)) by simpa using blk_new (w.alloc (.cells #[.int .i64 k, .int .i64 n, .slice A1 fs.length c1, .int .i64 0, .int .i64 16777217, .bool true, .bool false, .bool false, .bool false, .bool false, .bool false, .bool false, .bool false, .string { data := #[] }, .string { data := #[] }, .string { data := #[] }, .string { data := #[] }, .int .i64 0, .int .i64 0, .int .i64 0, .int .i64 0, .int .i64 0, .int .i64 0, .int .i64 0, .int .i64 0, .int .i64 0, .slice B1 fl.length e1] 66 (0, 0))) (.cells #[.int .i64 k, .int .i64 n, .slice A2 fs.length c2, .int .i64 0, .int .i64 16777217, .bool true, .bool false, .bool false, .bool false, .bool false, .bool false, .bool false, .bool false, .string { data := #[] }, .string { data := #[] }, .string { data := #[] }, .string { data := #[] }, .int .i64 0, .int .i64 0, .int .i64 0, .int .i64 0, .int .i64 0, .int .i64 0, .int .i64 0, .int .i64 0, .int .i64 0, .slice B2 fl.length e2] 66 (0, 0))) hb)
  clear hb HB1 HB2 HW HF1 HF2 q1 q2 q3
  have y1 := blk_cell X1.out 26
  have y2 := blk_cell X2.out 26
  simp only [List.getElem?_toArray, List.getElem?_cons_zero, List.getElem?_cons_succ] at y1 y2
  go_wp2_with fail
  refine (EqualB.calls B1 B2 e1 e2 fl _ HB1b.out HB2b.out hm).mono ?_
  rintro e w3 ⟨rfl, hb⟩
  have HW3 := Aside0.mk (below_step HW2.out hb)
  clear hb
  go_wp2
  go_ret
  exact ⟨rfl, HW3.out⟩
end Dr
end Go.Proofs.Ytiokjjadpobciaa.P
