import Derived.Test.YtjegkfdcelodeaaLw1
namespace Go.Proofs.Ytjegkfdcelodeaa.P
open Go.RowKit
/-- The plain statement of the law PackInts, over what was printed. -/
def ossuarylaw01_PackInts.Pure : Prop := ∀ (a0 : Int), (Lit.int .i64 a0).wf = true → ∃ k, ossuarylaw01_PackInts.f k a0 = some true
end Go.Proofs.Ytjegkfdcelodeaa.P
