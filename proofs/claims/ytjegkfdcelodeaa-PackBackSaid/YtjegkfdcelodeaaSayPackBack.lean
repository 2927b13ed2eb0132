import Derived.Test.YtjegkfdcelodeaaLw8
namespace Go.Proofs.Ytjegkfdcelodeaa.P
open Go.RowKit
/-- The plain statement of the law PackBack, over what was printed. -/
def ossuarylaw01_PackBack.Pure : Prop := ∀ (l0 : List S52) (a1 : Int), (∀ q ∈ l0, (Lit.int .i64 q.f0).wf = true ∧ (Lit.int .i64 q.f1).wf = true ∧ (Lit.int .u64 q.f2).wf = true ∧ (Lit.int .i64 q.f3).wf = true ∧ q.f4.size ≤ maxLen) → (Lit.int .i64 a1).wf = true → ossuarylaw01_PackBack.f l0 a1 = some true
end Go.Proofs.Ytjegkfdcelodeaa.P
