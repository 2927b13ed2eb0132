import Derived.Test.YtjegkfdcelodeaaSayPackNils
namespace Go.Proofs.Ytjegkfdcelodeaa.Pure
open Go.RowKit Go.Proofs.Ytjegkfdcelodeaa.P

theorem PackNils : ossuarylaw01_PackNils.Pure := fun _ _ => rfl
end Go.Proofs.Ytjegkfdcelodeaa.Pure
