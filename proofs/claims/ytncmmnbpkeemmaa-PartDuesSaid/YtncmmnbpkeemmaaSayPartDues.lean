import Derived.Test.YtncmmnbpkeemmaaPx24
namespace Go.Proofs.Ytncmmnbpkeemmaa.P
open Go.RowKit
/-- The plain statement of the law PartDues, over what was printed. -/
def ossuarylaw19_PartDues.Pure : Prop := ∀ (a0_0 : Int) (a0_1 : Int) (a1 : Int) (a2_0 : Int) (a2_1 : Int) (a2_2 : Int) (a2_3 : Int) (a2_4 : Int) (a2_5 : Int) (a2_6 : Int) (a2_7 : Int) (a2_8 : Int) (a3 : Int), (Lit.int .i64 a0_0).wf = true → (Lit.int .i64 a0_1).wf = true → (Lit.int .i64 a1).wf = true → (Lit.int .i64 a2_0).wf = true → (Lit.int .i64 a2_1).wf = true → (Lit.int .i64 a2_2).wf = true → (Lit.int .i64 a2_3).wf = true → (Lit.int .i64 a2_4).wf = true → (Lit.int .i64 a2_5).wf = true → (Lit.int .i64 a2_6).wf = true → (Lit.int .i64 a2_7).wf = true → (Lit.int .i64 a2_8).wf = true → (Lit.int .i64 a3).wf = true → ∃ k, ossuarylaw19_PartDues.f k a0_0 a0_1 a1 a2_0 a2_1 a2_2 a2_3 a2_4 a2_5 a2_6 a2_7 a2_8 a3 = some true
end Go.Proofs.Ytncmmnbpkeemmaa.P
