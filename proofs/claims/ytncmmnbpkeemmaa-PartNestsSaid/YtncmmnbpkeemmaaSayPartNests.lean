import Derived.Test.YtncmmnbpkeemmaaPx12
namespace Go.Proofs.Ytncmmnbpkeemmaa.P
open Go.RowKit
/-- The plain statement of the law PartNests, over what was printed. -/
def ossuarylaw19_PartNests.Pure : Prop := ∀ (a0_0 : Int) (a0_1 : Int) (a1_0 : Int) (a1_1 : Int) (a2 : Int), (Lit.int .i64 a0_0).wf = true → (Lit.int .i64 a0_1).wf = true → (Lit.int .i64 a1_0).wf = true → (Lit.int .i64 a1_1).wf = true → (Lit.int .i64 a2).wf = true → ∃ k, ossuarylaw19_PartNests.f k a0_0 a0_1 a1_0 a1_1 a2 = some true
end Go.Proofs.Ytncmmnbpkeemmaa.P
