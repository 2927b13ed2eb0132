import Derived.Test.YtiokjjadpobciaaLw4
namespace Go.Proofs.Ytiokjjadpobciaa.P
open Go.RowKit
/-- The plain statement of the law LanePlays, over what was printed. -/
def ossuarylaw08_LanePlays.Pure : Prop := ∀ (a0 : Int) (a1 : Int) (l2 : List S42), (Lit.int .i64 a0).wf = true → (Lit.int .i64 a1).wf = true → (∀ q ∈ l2, (Lit.int .i64 q.f0).wf = true ∧ (Lit.int .i64 q.f1).wf = true ∧ (Lit.int .i64 q.f2).wf = true) → ossuarylaw08_LanePlays.f a0 a1 l2 = some true
end Go.Proofs.Ytiokjjadpobciaa.P
