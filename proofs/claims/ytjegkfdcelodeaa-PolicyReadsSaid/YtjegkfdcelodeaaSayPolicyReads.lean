import Derived.Test.YtjegkfdcelodeaaLw6
namespace Go.Proofs.Ytjegkfdcelodeaa.P
open Go.RowKit
/-- The plain statement of the law PolicyReads, over what was printed. -/
def ossuarylaw18_PolicyReads.Pure : Prop := ∀ (l0 : List Int), l0.length ≤ maxLen → l0.length * 1 ≤ 140737488351232 → (∀ x ∈ l0, (Lit.int .u8 x).wf = true) → ossuarylaw18_PolicyReads.f l0 = some true
end Go.Proofs.Ytjegkfdcelodeaa.P
