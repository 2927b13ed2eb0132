import Derived.Test.YtiokjjadpobciaaLo
namespace Go.Proofs.Ytiokjjadpobciaa.P
open Go.RowKit Go.Conc Go.Proofs.YtiokjjadpobciaaW.PrintWords Go.Proofs.YtiokjjadpobciaaW.PrintLast Go.Proofs.YtiokjjadpobciaaW.PrintMore
attribute [local go_sem] max2_int min2_int max_two min_two max_three min_three max_four min_four
set_option linter.unusedVariables false
set_option linter.unusedSimpArgs false
def ossuarylaw08_LaneOrders.f (a0 : Int) (l1 l2 : List Int) : Option Bool := some true
open Ln in
theorem ossuarylaw08_LaneOrders.calls (a0 : Int) (A1 : Option Addr) (c1 : Nat) (l1 : List Int) (A2 : Option Addr) (c2 : Nat) (l2 : List Int) (r : Bool) (w : World) (hC1 : Kd.C (Kd.int .i64) w A1 l1.length l1) (hc1 : l1.length ≤ c1) (hC2 : Kd.C (Kd.int .i64) w A2 l2.length l2) (hc2 : l2.length ≤ c2) (h : ossuarylaw08_LaneOrders.f a0 l1 l2 = some r) :
    Calls Try.prog 4 #[.int .i64 a0, .slice A1 l1.length c1, .slice A2 l2.length c2] w fun e w' => e = .returned (.bool r) ∧ Below w.heap.size w w' := by
  obtain rfl := Option.some.inj h
  by_cases d : 1 ≤ a0 ∧ a0 ≤ 64 ∧ l1.length ≤ 100 ∧ l2.length ≤ 100
  · obtain ⟨n, rfl⟩ : ∃ n : Nat, a0 = n := ⟨a0.toNat, by omega⟩
    exact lo_main A1 A2 c1 c2 l1 l2 n w (by omega) (by omega) d.2.2.1 d.2.2.2 hC1 hC2
  · exact lo_long A1 A2 c1 c2 l1 l2 a0 w d
end Go.Proofs.Ytiokjjadpobciaa.P
