import Derived.Test.YtiokjjadpobciaaSayLaneOrders
namespace Go.Proofs.Ytiokjjadpobciaa.Pure
set_option linter.unusedVariables false
open Go.RowKit Go.Proofs.Ytiokjjadpobciaa.P
theorem LaneOrders : ossuarylaw08_LaneOrders.Pure := by
  unfold ossuarylaw08_LaneOrders.Pure; intros
  rfl
end Go.Proofs.Ytiokjjadpobciaa.Pure
