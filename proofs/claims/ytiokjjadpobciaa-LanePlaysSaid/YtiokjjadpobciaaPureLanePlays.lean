import Derived.Test.YtiokjjadpobciaaSayLanePlays
namespace Go.Proofs.Ytiokjjadpobciaa.Pure
open Go.RowKit Go.Proofs.Ytiokjjadpobciaa.P
theorem LanePlays : ossuarylaw08_LanePlays.Pure := fun _ _ _ _ _ _ => rfl
end Go.Proofs.Ytiokjjadpobciaa.Pure
