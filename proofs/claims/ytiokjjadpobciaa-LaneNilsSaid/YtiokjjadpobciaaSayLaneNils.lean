import Derived.Test.YtiokjjadpobciaaLw1
namespace Go.Proofs.Ytiokjjadpobciaa.P
open Go.RowKit
/-- The plain statement of the law LaneNils, over what was printed. -/
def ossuarylaw08_LaneNils.Pure : Prop := ∀ (a0 : Int) (a1 : Int), (Lit.int .i64 a0).wf = true → (Lit.int .i64 a1).wf = true → ossuarylaw08_LaneNils.f a0 a1 = some true
end Go.Proofs.Ytiokjjadpobciaa.P
