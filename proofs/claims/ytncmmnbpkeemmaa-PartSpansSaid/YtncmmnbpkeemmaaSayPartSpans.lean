import Derived.Test.YtncmmnbpkeemmaaPx9
namespace Go.Proofs.Ytncmmnbpkeemmaa.P
open Go.RowKit
/-- The plain statement of the law PartSpans, over what was printed. -/
def ossuarylaw19_PartSpans.Pure : Prop := ∀ (a0_0 : Int) (a0_1 : Int) (a1 : Int) (a2 : Int), (Lit.int .i64 a0_0).wf = true → (Lit.int .i64 a0_1).wf = true → (Lit.int .i64 a1).wf = true → (Lit.int .i64 a2).wf = true → ∃ k, ossuarylaw19_PartSpans.f k a0_0 a0_1 a1 a2 = some true
end Go.Proofs.Ytncmmnbpkeemmaa.P
