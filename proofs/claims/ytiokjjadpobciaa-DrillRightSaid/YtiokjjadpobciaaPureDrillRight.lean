import Derived.Test.YtiokjjadpobciaaSayDrillRight
namespace Go.Proofs.Ytiokjjadpobciaa.Pure
open Go.RowKit Go.Proofs.Ytiokjjadpobciaa.P
theorem DrillRight : ossuarylaw36_DrillRight.Pure := fun _ _ _ _ _ _ => rfl
end Go.Proofs.Ytiokjjadpobciaa.Pure
