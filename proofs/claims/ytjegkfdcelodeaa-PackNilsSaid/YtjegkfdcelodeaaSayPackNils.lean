import Derived.Test.YtjegkfdcelodeaaLw2
namespace Go.Proofs.Ytjegkfdcelodeaa.P
open Go.RowKit
/-- The plain statement of the law PackNils, over what was printed. -/
def ossuarylaw01_PackNils.Pure : Prop := ∀ (a0 : Int), (Lit.int .i64 a0).wf = true → ossuarylaw01_PackNils.f a0 = some true
end Go.Proofs.Ytjegkfdcelodeaa.P
