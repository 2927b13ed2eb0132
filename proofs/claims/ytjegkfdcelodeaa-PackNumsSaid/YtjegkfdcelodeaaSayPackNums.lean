import Derived.Test.YtjegkfdcelodeaaLw1
namespace Go.Proofs.Ytjegkfdcelodeaa.P
open Go.RowKit
/-- The plain statement of the law PackNums, over what was printed. -/
def ossuarylaw01_PackNums.Pure : Prop := ∀ (a0 : Int), (Lit.int .u64 a0).wf = true → ∃ k, ossuarylaw01_PackNums.f k a0 = some true
end Go.Proofs.Ytjegkfdcelodeaa.P
