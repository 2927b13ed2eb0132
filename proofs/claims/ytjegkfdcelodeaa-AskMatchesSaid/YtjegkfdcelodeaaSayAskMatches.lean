import Derived.Test.YtjegkfdcelodeaaLwM
namespace Go.Proofs.Ytjegkfdcelodeaa.P
open Go.RowKit
/-- The plain statement of the law AskMatches, over what was printed. -/
def ossuarylaw13_AskMatches.Pure : Prop := ∀ (a0 : Qy) (a1 : Ky), (Lit.int .i64 a0.a).wf = true → (Lit.int .i64 a0.b).wf = true → (Lit.int .i64 a1.h).wf = true → ossuarylaw13_AskMatches.f a0 a1 = some true
end Go.Proofs.Ytjegkfdcelodeaa.P
