import Derived.Test.YtjegkfdcelodeaaLw7
namespace Go.Proofs.Ytjegkfdcelodeaa.P
open Go.RowKit
/-- The plain statement of the law PackPuts, over what was printed. -/
def ossuarylaw01_PackPuts.Pure : Prop := ∀ (l0 : List S52), (∀ q ∈ l0, (Lit.int .i64 q.f0).wf = true ∧ (Lit.int .i64 q.f1).wf = true ∧ (Lit.int .u64 q.f2).wf = true ∧ (Lit.int .i64 q.f3).wf = true ∧ q.f4.size ≤ maxLen) → ossuarylaw01_PackPuts.f l0 = some true
end Go.Proofs.Ytjegkfdcelodeaa.P
