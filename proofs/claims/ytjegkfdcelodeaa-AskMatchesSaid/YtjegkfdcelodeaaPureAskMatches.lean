import Derived.Test.YtjegkfdcelodeaaSayAskMatches
namespace Go.Proofs.Ytjegkfdcelodeaa.Pure
open Go.RowKit Go.Proofs.Ytjegkfdcelodeaa.P
theorem AskMatches : ossuarylaw13_AskMatches.Pure := fun _ _ _ _ _ => rfl
end Go.Proofs.Ytjegkfdcelodeaa.Pure
