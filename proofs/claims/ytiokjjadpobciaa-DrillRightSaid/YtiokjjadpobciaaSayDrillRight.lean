import Derived.Test.YtiokjjadpobciaaLw5
namespace Go.Proofs.Ytiokjjadpobciaa.P
open Go.RowKit
/-- The plain statement of the law DrillRight, over what was printed. -/
def ossuarylaw36_DrillRight.Pure : Prop := ∀ (a0 : Int) (a1 : Int) (a2 : Int), (Lit.int .i64 a0).wf = true → (Lit.int .u64 a1).wf = true → (Lit.int .i64 a2).wf = true → ossuarylaw36_DrillRight.f a0 a1 a2 = some true
end Go.Proofs.Ytiokjjadpobciaa.P
