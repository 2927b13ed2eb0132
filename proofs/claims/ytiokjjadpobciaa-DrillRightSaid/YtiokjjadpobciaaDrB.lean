import Derived.Test.YtiokjjadpobciaaPx3
import Derived.Test.YtiokjjadpobciaaDr7
namespace Go.Proofs.Ytiokjjadpobciaa.P
open Go.RowKit Go.Conc Go.Proofs.YtiokjjadpobciaaW.PrintWords Go.Proofs.YtiokjjadpobciaaW.PrintLast Go.Proofs.YtiokjjadpobciaaW.PrintMore
attribute [local go_sem] max2_int min2_int max_two min_two max_three min_three max_four min_four
set_option linter.unusedVariables false
set_option linter.unusedSimpArgs false
namespace Dr
open Ln
/-- A fact that is right for two dimensions. -/
structure FOk (f : Fa) : Prop where
  h : 0 ≤ f.h ∧ f.h ≤ 16777216
  v : -1152921504606846976 ≤ f.v ∧ f.v ≤ 1152921504606846976
  a : f.a.size ≤ 16
  b : f.b.size ≤ 16
def fT (f : Fa) (i : Nat) : ByteArray := if i = 0 then f.a else if i = 1 then f.b else { data := #[] }
theorem fT_none (f : Fa) {i : Nat} (h : 2 ≤ i) : fT f i = { data := #[] } := by unfold fT; rw [if_neg (by omega), if_neg (by omega)]
theorem fT_size {f : Fa} (h : FOk f) (i : Nat) : (fT f i).size ≤ 16 := by
  unfold fT
  split
  · exact h.a
  · split
    · exact h.b
    · decide
set_option maxRecDepth 100000 in
theorem idxF (f : Fa) {i : Nat} (hi : i < 4) (W : World) : (Instr.index 59 (.agg #[.string f.a, .string f.b, .string { data := #[] }, .string { data := #[] }]) (.int .i64 i)).run Try.prog W = .ok (.string (fT f i)) W := by
  have h : i = 0 ∨ i = 1 ∨ i = 2 ∨ i = 3 := by omega
  rcases h with rfl | rfl | rfl | rfl <;> rfl
set_option maxHeartbeats 8000000 in
set_option maxRecDepth 100000 in
theorem FCheck.calls (f : Fa) (w : World) (h : FOk f) :
    Calls Try.prog 48 #[.agg #[.int .i64 f.h, .string f.a, .string f.b, .string { data := #[] }, .string { data := #[] }, .int .i64 f.v], .int .i64 2] w fun e w' => e = .returned (.int .i64 0) ∧ Below w.heap.size w w' := by
  have HB := Aside0.mk (show Below w.heap.size w (w.alloc (.cells #[.int .i64 f.h, .string f.a, .string f.b, .string { data := #[] }, .string { data := #[] }, .int .i64 f.v] 88 (0, 0))) from (Below.refl _ w).alloc (Nat.le_refl _) _)
  have hm : fact_many.f 2 = some true := rfl
  have d1 : decide (f.h < 0) = false := decide_eq_false (by have := h.h; omega)
  have d2 : decide (16777216 < f.h) = false := decide_eq_false (by have := h.h; omega)
  have d3 : decide (1152921504606846976 < f.v) = false := decide_eq_false (by have := h.v; omega)
  have d4 : decide (f.v < -1152921504606846976) = false := decide_eq_false (by have := h.v; omega)
  have d5 : decide (16 < (f.a.size : Int)) = false := decide_eq_false (by have := h.a; omega)
  have d6 : decide (16 < (f.b.size : Int)) = false := decide_eq_false (by have := h.b; omega)
  have es : ({ data := #[] } : ByteArray).size = 0 := rfl
  have HT := Aside0.mk (fT_size h)
  clear h
  go_enter Try.func48, Try.ntmps48
  go_wp2_with fail
  refine (fact_many.calls 2 true _ hm).mono ?_
  rintro e w2 ⟨rfl, hb⟩
  have X := Aside0.mk (blk_below (blk_new w (.cells #[.int .i64 f.h, .string f.a, .string f.b, .string { data := #[] }, .string { data := #[] }, .int .i64 f.v] 88 (0, 0))) hb.below)
  have HW := Aside0.mk (below_step HB.out hb.below)
  clear hb HB hm
  have x0 := blk_cell X.out 0
  have x1 := blk_cell X.out 1
  have x2 := blk_cell X.out 2
  have x3 := blk_cell X.out 3
  have x4 := blk_cell X.out 4
  have x5 := blk_cell X.out 5
  simp only [List.getElem?_toArray, List.getElem?_cons_zero, List.getElem?_cons_succ] at x0 x1 x2 x3 x4 x5
  go_wp2
  clear x0 x1 x2 x3 x4 x5 X
  go_loopw [5, 6, 35] (fun x5 x6 x35 wr => ∃ i : Nat, x35 = .int .i64 i ∧ i ≤ 4 ∧ wr = w2) (fun _ _ x35 _ => 4 - (intOf x35).toNat)
  case atStart => exact ⟨0, rfl, by omega, rfl⟩
  case round =>
    obtain ⟨i, rfl, hi, rfl⟩ := hrel
    by_cases d : i < 4
    · have dl : decide ((i : Int) < 4) = true := decide_eq_true (by omega)
      have b1 : (0 : Int) ≤ (i : Int) := by omega
      have b2 : (i : Int) < 4 := by omega
      have hw : wrap64 ((i : Int) + 1) = ((i + 1 : Nat) : Int) := by unfold wrap64; omega
      have hix := idxF f d
      have ds : decide (16 < ((fT f i).size : Int)) = false := decide_eq_false (by have := HT.out i; omega)
      by_cases c : i < 2
      · have dg : decide ((i : Int) ≥ 2) = false := decide_eq_false (by omega)
        have dh : decide (2 ≤ (i : Int)) = false := decide_eq_false (by omega)
        go_wp2
        go_roundw
        case rel => exact ⟨i + 1, rfl, by omega, (by first | rfl | trivial)⟩
        case measure => simp only [intOf]; omega
      · have dg : decide ((i : Int) ≥ 2) = true := decide_eq_true (by omega)
        have dh : decide (2 ≤ (i : Int)) = true := decide_eq_true (by omega)
        have ht : fT f i = { data := #[] } := fT_none f (by omega)
        rw [ht] at hix ds
        go_wp2
        go_roundw
        case rel => exact ⟨i + 1, rfl, by omega, (by first | rfl | trivial)⟩
        case measure => simp only [intOf]; omega
    · obtain rfl : i = 4 := by omega
      have dl : decide (((4 : Nat) : Int) < 4) = false := rfl
      go_wp2
      go_ret
      exact ⟨rfl, HW.out⟩
set_option maxHeartbeats 8000000 in
set_option maxRecDepth 100000 in
theorem All.calls (A : Option Addr) (c : Nat) (l : List Fa) (w : World) (h : Kd.C factK w A l.length l) (hl : 1 ≤ l.length ∧ l.length ≤ 50) (hf : ∀ f ∈ l, FOk f) :
    Calls Try.prog 43 #[.slice A l.length c, .int .i64 2] w fun e w' => e = .returned (.tuple #[.int .i64 0, .int .i64 0]) ∧ Below w.heap.size w w' := by
  have H := Aside0.mk h
  have HF := Aside0.mk hf
  have hm : fact_many.f 2 = some true := rfl
  have e1 : ((l.length : Int) == 0) = false := beq_eq_false_iff_ne.mpr (by omega)
  have e2 : decide (50 < (l.length : Int)) = false := decide_eq_false (by omega)
  have hl2 : l.length ≤ 50 := hl.2
  clear h hf
  go_enter Try.func43, Try.ntmps43
  go_wp2_with fail
  refine (fact_many.calls 2 true _ hm).mono ?_
  rintro e w2 ⟨rfl, hb⟩
  have HB := Aside0.mk hb.below
  replace H := Aside0.mk (Kd.C_below H.out hb.below)
  clear hb hm
  go_wp2
  clear e1 e2 hl
  go_loopw [6, 7, 8, 24] (fun x6 x7 x8 x24 wr => ∃ i : Nat, x24 = .int .i64 i ∧ i ≤ l.length ∧ Aside0 (Below w2.heap.size w2 wr)) (fun _ _ _ x24 _ => l.length - (intOf x24).toNat)
  case atStart => exact ⟨0, rfl, by omega, ⟨Below.refl _ _⟩⟩
  case round =>
    obtain ⟨i, rfl, hi, HR⟩ := hrel
    by_cases d : i < l.length
    · have dl : decide ((i : Int) < (l.length : Int)) = true := decide_eq_true (by omega)
      have b1 : (0 : Int) ≤ (i : Int) := by omega
      have b2 : (i : Int) < (l.length : Int) := by omega
      have hw : wrap64 ((i : Int) + 1) = ((i + 1 : Nat) : Int) := by unfold wrap64; omega
      obtain ⟨ad1, _, rfl, -⟩ := Kd.C_get H.out ⟨0, { data := #[] }, { data := #[] }, 0⟩ (i : Int) b1 b2
      obtain ⟨f0, f1, f2, f3, f4, f5⟩ := atF (Kd.C_below H.out HR.out) i d
      have hF := HF.out l[i] (List.getElem_mem d)
      generalize l[i] = fx at f0 f1 f2 f3 f4 f5 hF
      have HK := Aside0.mk (FCheck.calls fx (wr.alloc (.cells #[.int .i64 fx.h, .string fx.a, .string fx.b, .string { data := #[] }, .string { data := #[] }, .int .i64 fx.v] 88 (0, 0))) hF)
      have HR2 := Aside0.mk (HR.out.alloc HR.out.size (.cells #[.int .i64 fx.h, .string fx.a, .string fx.b, .string { data := #[] }, .string { data := #[] }, .int .i64 fx.v] 88 (0, 0)))
      clear hF HR
      go_wp2_with fail
      refine HK.out.mono ?_
      rintro e w9 ⟨rfl, hb⟩
      have HR3 := Aside0.mk (below_step HR2.out hb)
      clear hb HK HR2 f0 f1 f2 f3 f4 f5
      go_wp2
      go_roundw
      case rel => exact ⟨i + 1, rfl, by omega, HR3⟩
      case measure => simp only [intOf]; omega
    · have hil : i = l.length := by omega
      have dl : decide ((i : Int) < (l.length : Int)) = false := decide_eq_false (by omega)
      go_wp2
      go_ret2
      exact ⟨rfl, below_step HB.out HR.out⟩
end Dr
end Go.Proofs.Ytiokjjadpobciaa.P
