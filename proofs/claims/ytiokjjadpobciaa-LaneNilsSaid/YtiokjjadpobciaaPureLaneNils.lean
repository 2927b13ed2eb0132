import Derived.Test.YtiokjjadpobciaaSayLaneNils
namespace Go.Proofs.Ytiokjjadpobciaa.Pure
open Go.RowKit Go.Proofs.Ytiokjjadpobciaa.P
theorem LaneNils : ossuarylaw08_LaneNils.Pure := fun _ _ _ _ => rfl
end Go.Proofs.Ytiokjjadpobciaa.Pure
