import Derived.Test.YtjegkfdcelodeaaNum
import Derived.Test.YtjegkfdcelodeaaSayPackNums
namespace Go.Proofs.Ytjegkfdcelodeaa.Pure
set_option linter.unusedVariables false
set_option linter.unusedSimpArgs false
open Go.RowKit Go.Proofs.Ytjegkfdcelodeaa.P Go.Proofs.Ytjegkfdcelodeaa.P.Wr Go.Proofs.Ytjegkfdcelodeaa.Pol Go.Proofs.YtjegkfdcelodeaaW.PrintWords Go.Proofs.YtjegkfdcelodeaaW.PrintLast Go.Proofs.YtjegkfdcelodeaaW.PrintMore

theorem of_wf64 {n : Int} (h : (Lit.int .u64 n).wf = true) : 0 ≤ n ∧ n < 18446744073709551616 := by
  simp [Lit.wf, IntKind.min, IntKind.max, IntKind.bits, IntKind.signed] at h; omega
theorem of_wfi {n : Int} (h : (Lit.int .i64 n).wf = true) : -9223372036854775808 ≤ n ∧ n < 9223372036854775808 := by
  simp [Lit.wf, IntKind.min, IntKind.max, IntKind.bits, IntKind.signed] at h; omega
theorem PackNums : ossuarylaw01_PackNums.Pure := by
  intro a0 h
  have h := of_wf64 h
  refine ⟨100, ?_⟩
  unfold ossuarylaw01_PackNums.f
  rw [if_pos ⟨h, ref_Num_eq 100 a0 h.1 h.2 (by omega) (by omega)⟩]
end Go.Proofs.Ytjegkfdcelodeaa.Pure
