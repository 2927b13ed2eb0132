import Derived.Test.YtiokjjadpobciaaSayDrillDrives
namespace Go.Proofs.Ytiokjjadpobciaa.Pure
open Go.RowKit Go.Proofs.Ytiokjjadpobciaa.P
theorem DrillDrives : ossuarylaw36_DrillDrives.Pure := fun _ _ _ _ => rfl
end Go.Proofs.Ytiokjjadpobciaa.Pure
