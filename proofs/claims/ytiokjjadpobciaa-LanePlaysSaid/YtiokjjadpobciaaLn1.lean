import Derived.Test.YtiokjjadpobciaaLn0
namespace Go.Proofs.Ytiokjjadpobciaa.P
open Go.RowKit Go.Conc Go.Proofs.YtiokjjadpobciaaW.PrintWords Go.Proofs.YtiokjjadpobciaaW.PrintLast Go.Proofs.YtiokjjadpobciaaW.PrintMore
attribute [local go_sem] max2_int min2_int max_two min_two max_three min_three max_four min_four
set_option linter.unusedVariables false
set_option linter.unusedSimpArgs false
namespace Ln
theorem LnS.at {B g room : Nat} {v : Value} {cs : List Nat} {L : List (List Int)} {w : World} (h : LnS B g v cs room L w) (i : Nat) (hi : i < cs.length) : ∃ ad cp c, v = .slice (some ad) cs.length cp ∧ cs[i]? = some c ∧ w.cell? (ad.add i) = some (.chan (some c)) := by
  obtain ⟨A, cp, e, hl, hr⟩ := Kd.R_reads h.row
  obtain ⟨ad, c, rfl, hc, hk, hcell⟩ := Kd.C_get hr 0 (i : Int) (by omega) (by omega)
  refine ⟨ad, cp, cs[i], e, by simp, ?_⟩
  have hk' : c = [Value.chan (some (cs.getD (i : Int).toNat 0))] := hk
  have := hcell 0 (.chan (some cs[i])) (by rw [hk']; simp [List.getD_eq_getElem?_getD, List.getElem?_eq_getElem hi])
  simpa [show chan.sz = 1 from rfl] using this
set_option maxHeartbeats 8000000 in
set_option maxRecDepth 100000 in
theorem of_nil.calls (i : Int) (w : World) :
    Calls Try.prog 26 #[.pointer none, .int .i64 i] w fun e w' => e = .returned (.tuple #[.chan none, .bool false]) ∧ w' = w := by
  go_enter Try.func26, Try.ntmps26
  go_wp2
  go_ret2
  exact ⟨rfl, rfl⟩
set_option maxHeartbeats 8000000 in
set_option maxRecDepth 100000 in
theorem of_out.calls (B g room : Nat) (v : Value) (cs : List Nat) (L : List (List Int)) (i : Int) (w : World) (h : LnS B g v cs room L w) (hi : i < 0 ∨ cs.length ≤ i) :
    Calls Try.prog 26 #[.pointer (some ⟨g, 0, none⟩), .int .i64 i] w fun e w' => e = .returned (.tuple #[.chan none, .bool false]) ∧ w' = w := by
  obtain ⟨A, cp, e, hl, hr⟩ := Kd.R_reads h.row
  have hc := h.cell
  have hf := h.free
  rw [e] at hc
  clear hr
  by_cases d : i < 0
  · have d1 : decide (i < 0) = true := decide_eq_true d
    go_enter Try.func26, Try.ntmps26
    go_wp2
    go_ret2
    exact ⟨rfl, rfl⟩
  · have d1 : decide (i < 0) = false := decide_eq_false d
    have d2 : decide ((cs.length : Int) ≤ i) = true := decide_eq_true (by omega)
    go_enter Try.func26, Try.ntmps26
    go_wp2
    go_ret2
    exact ⟨rfl, rfl⟩
set_option maxHeartbeats 8000000 in
set_option maxRecDepth 100000 in
theorem of_in.calls (B g room : Nat) (v : Value) (cs : List Nat) (L : List (List Int)) (i c : Nat) (w : World) (h : LnS B g v cs room L w) (hi : cs[i]? = some c) :
    Calls Try.prog 26 #[.pointer (some ⟨g, 0, none⟩), .int .i64 i] w fun e w' => e = .returned (.tuple #[.chan (some c), .bool true]) ∧ w' = w := by
  have hlt : i < cs.length := (List.getElem?_eq_some_iff.1 hi).1
  obtain ⟨ad, cp, c', e, hi', hcell⟩ := h.at i hlt
  obtain rfl : c' = c := Option.some.inj (hi'.symm.trans hi)
  have hc := h.cell
  have hf := h.free
  rw [e] at hc
  have d1 : decide ((i : Int) < 0) = false := decide_eq_false (by omega)
  have d2 : decide ((cs.length : Int) ≤ (i : Int)) = false := decide_eq_false (by omega)
  have b1 : (0 : Int) ≤ (i : Int) := by omega
  have b2 : (i : Int) < (cs.length : Int) := by omega
  clear h hi hi'
  go_enter Try.func26, Try.ntmps26
  go_wp2
  go_ret2
  exact ⟨rfl, rfl⟩
end Ln
end Go.Proofs.Ytiokjjadpobciaa.P
