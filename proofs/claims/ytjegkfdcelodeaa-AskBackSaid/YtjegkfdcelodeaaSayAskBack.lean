import Derived.Test.YtjegkfdcelodeaaLwB
namespace Go.Proofs.Ytjegkfdcelodeaa.P
open Go.RowKit
/-- The plain statement of the law AskBack, over what was printed. -/
def ossuarylaw13_AskBack.Pure : Prop := ∀ (a0 : Qy) (l1 : List Int) (a2 : Int) (a3 : Int) (a4 : Ky), (Lit.int .i64 a0.a).wf = true → (Lit.int .i64 a0.b).wf = true → l1.length ≤ maxLen → l1.length * 1 ≤ 140737488351232 → (∀ x ∈ l1, (Lit.int .u8 x).wf = true) → (Lit.int .i64 a2).wf = true → (Lit.int .i64 a3).wf = true → (Lit.int .i64 a4.h).wf = true → ossuarylaw13_AskBack.f a0 l1 a2 a3 a4 = some true
end Go.Proofs.Ytjegkfdcelodeaa.P
