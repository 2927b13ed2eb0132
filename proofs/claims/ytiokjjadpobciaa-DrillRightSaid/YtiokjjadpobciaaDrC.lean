import Derived.Test.YtiokjjadpobciaaPx3
import Derived.Test.YtiokjjadpobciaaDr7
namespace Go.Proofs.Ytiokjjadpobciaa.P
open Go.RowKit Go.Conc Go.Proofs.YtiokjjadpobciaaW.PrintWords Go.Proofs.YtiokjjadpobciaaW.PrintLast Go.Proofs.YtiokjjadpobciaaW.PrintMore
attribute [local go_sem] max2_int min2_int max_two min_two max_three min_three max_four min_four
set_option linter.unusedVariables false
set_option linter.unusedSimpArgs false
namespace Dr
open Ln
def qZ : Array Value := #[.int .i64 0, .int .i64 16777217, .bool true, .bool false, .bool false, .bool false, .bool false, .bool false, .bool false, .bool false, .string { data := #[] }, .string { data := #[] }, .string { data := #[] }, .string { data := #[] }]
set_option maxRecDepth 100000 in
theorem idxE {i : Nat} (hi : i < 4) (W : World) : (Instr.index 59 (.agg #[.string { data := #[] }, .string { data := #[] }, .string { data := #[] }, .string { data := #[] }]) (.int .i64 i)).run Try.prog W = .ok (.string { data := #[] }) W := by
  have h : i = 0 ∨ i = 1 ∨ i = 2 ∨ i = 3 := by omega
  rcases h with rfl | rfl | rfl | rfl <;> rfl
set_option maxHeartbeats 8000000 in
set_option maxRecDepth 100000 in
theorem QCheck.calls (w : World) :
    Calls Try.prog 44 #[.agg #[.int .i64 0, .int .i64 16777217, .bool true, .bool false, .bool false, .bool false, .bool false, .bool false, .bool false, .bool false, .string { data := #[] }, .string { data := #[] }, .string { data := #[] }, .string { data := #[] }], .int .i64 2] w fun e w' => e = .returned (.int .i64 0) ∧ Below w.heap.size w w' := by
  have HB := Aside0.mk (show Below w.heap.size w (w.alloc (.cells qZ 61 (0, 0))) from (Below.refl _ w).alloc (Nat.le_refl _) _)
  have hm : ask_many.f 2 = some true := rfl
  have es : ({ data := #[] } : ByteArray).size = 0 := rfl
  unfold qZ at HB
  go_enter Try.func44, Try.ntmps44
  go_wp2_with fail
  refine (ask_many.calls 2 true _ hm).mono ?_
  rintro e w2 ⟨rfl, hb⟩
  have X := Aside0.mk (show w2.heap[w.heap.size]? = some (.cells qZ 61 (0, 0)) from blk_below (blk_new w (.cells qZ 61 (0, 0))) hb.below)
  have HW := Aside0.mk (below_step HB.out hb.below)
  clear hb HB hm
  have x0 : w2.cell? ⟨w.heap.size, 0, none⟩ = some (.int .i64 0) := blk_cell X.out 0
  have x1 : w2.cell? ⟨w.heap.size, 1, none⟩ = some (.int .i64 16777217) := blk_cell X.out 1
  have x2 : w2.cell? ⟨w.heap.size, 10, none⟩ = some (.string { data := #[] }) := blk_cell X.out 10
  have x3 : w2.cell? ⟨w.heap.size, 11, none⟩ = some (.string { data := #[] }) := blk_cell X.out 11
  have x4 : w2.cell? ⟨w.heap.size, 12, none⟩ = some (.string { data := #[] }) := blk_cell X.out 12
  have x5 : w2.cell? ⟨w.heap.size, 13, none⟩ = some (.string { data := #[] }) := blk_cell X.out 13
  go_wp2
  clear x0 x1 x2 x3 x4 x5
  go_loopw [5, 6, 7, 30] (fun x5 x6 x7 x30 wr => ∃ i : Nat, x30 = .int .i64 i ∧ i ≤ 4 ∧ wr = w2) (fun _ _ _ x30 _ => 4 - (intOf x30).toNat)
  case atStart => exact ⟨0, rfl, by omega, rfl⟩
  case round =>
    obtain ⟨i, rfl, hi, rfl⟩ := hrel
    by_cases d : i < 4
    · have dl : decide ((i : Int) < 4) = true := decide_eq_true (by omega)
      have b1 : (0 : Int) ≤ (i : Int) := by omega
      have b2 : (i : Int) < 4 := by omega
      have hw : wrap64 ((i : Int) + 1) = ((i + 1 : Nat) : Int) := by unfold wrap64; omega
      have hix := fun W => idxE d W
      by_cases c : i < 2
      · have dg : decide ((i : Int) ≥ 2) = false := decide_eq_false (by omega)
        have dh : decide (2 ≤ (i : Int)) = false := decide_eq_false (by omega)
        go_wp2
        go_roundw
        case rel => exact ⟨i + 1, rfl, by omega, (by first | rfl | trivial)⟩
        case measure => simp only [intOf]; omega
      · have dg : decide ((i : Int) ≥ 2) = true := decide_eq_true (by omega)
        have dh : decide (2 ≤ (i : Int)) = true := decide_eq_true (by omega)
        have hc : i = 2 ∨ i = 3 := by omega
        have y1 : wr.cell? ⟨w.heap.size, 2 + i, none⟩ = some (.bool false) := by rcases hc with rfl | rfl <;> exact blk_cell X.out _
        have y2 : wr.cell? ⟨w.heap.size, 6 + i, none⟩ = some (.bool false) := by rcases hc with rfl | rfl <;> exact blk_cell X.out _
        clear hc
        go_wp2
        go_roundw
        case rel => exact ⟨i + 1, rfl, by omega, (by first | rfl | trivial)⟩
        case measure => simp only [intOf]; omega
    · obtain rfl : i = 4 := by omega
      have dl : decide (((4 : Nat) : Int) < 4) = false := rfl
      go_wp2
      go_ret
      exact ⟨rfl, HW.out⟩
end Dr
end Go.Proofs.Ytiokjjadpobciaa.P
