import Derived.Test.YtiokjjadpobciaaLw3
namespace Go.Proofs.Ytiokjjadpobciaa.P
open Go.RowKit
/-- The plain statement of the law DrillDrives, over what was printed. -/
def ossuarylaw36_DrillDrives.Pure : Prop := ∀ (a0 : Int) (a1 : Int), (Lit.int .i64 a0).wf = true → (Lit.int .i64 a1).wf = true → ossuarylaw36_DrillDrives.f a0 a1 = some true
end Go.Proofs.Ytiokjjadpobciaa.P
