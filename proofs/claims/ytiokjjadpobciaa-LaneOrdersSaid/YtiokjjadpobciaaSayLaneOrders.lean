import Derived.Test.YtiokjjadpobciaaLw2
namespace Go.Proofs.Ytiokjjadpobciaa.P
open Go.RowKit
/-- The plain statement of the law LaneOrders, over what was printed. -/
def ossuarylaw08_LaneOrders.Pure : Prop := ∀ (a0 : Int) (l1 : List Int) (l2 : List Int), (Lit.int .i64 a0).wf = true → l1.length ≤ maxLen → l1.length * 8 ≤ 140737488351232 → (∀ x ∈ l1, (Lit.int .i64 x).wf = true) → l2.length ≤ maxLen → l2.length * 8 ≤ 140737488351232 → (∀ x ∈ l2, (Lit.int .i64 x).wf = true) → ossuarylaw08_LaneOrders.f a0 l1 l2 = some true
end Go.Proofs.Ytiokjjadpobciaa.P
