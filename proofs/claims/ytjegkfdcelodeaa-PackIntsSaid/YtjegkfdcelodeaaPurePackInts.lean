import Derived.Test.YtjegkfdcelodeaaNum
import Derived.Test.YtjegkfdcelodeaaSayPackInts
namespace Go.Proofs.Ytjegkfdcelodeaa.Pure
set_option linter.unusedVariables false
set_option linter.unusedSimpArgs false
open Go.RowKit Go.Proofs.Ytjegkfdcelodeaa.P Go.Proofs.Ytjegkfdcelodeaa.P.Wr Go.Proofs.Ytjegkfdcelodeaa.Pol Go.Proofs.YtjegkfdcelodeaaW.PrintWords Go.Proofs.YtjegkfdcelodeaaW.PrintLast Go.Proofs.YtjegkfdcelodeaaW.PrintMore

theorem of_wf64 {n : Int} (h : (Lit.int .u64 n).wf = true) : 0 ≤ n ∧ n < 18446744073709551616 := by
  simp [Lit.wf, IntKind.min, IntKind.max, IntKind.bits, IntKind.signed] at h; omega
theorem of_wfi {n : Int} (h : (Lit.int .i64 n).wf = true) : -9223372036854775808 ≤ n ∧ n < 9223372036854775808 := by
  simp [Lit.wf, IntKind.min, IntKind.max, IntKind.bits, IntKind.signed] at h; omega
theorem PackInts : ossuarylaw01_PackInts.Pure := by
  intro a0 h
  have h := of_wfi h
  refine ⟨100, ?_⟩
  unfold ossuarylaw01_PackInts.f
  have e : ossuaryref01_Int.f 100 a0 = some (numB (zz a0)) := by
    unfold ossuaryref01_Int.f zz
    by_cases c : 0 ≤ a0
    · rw [if_pos c, if_pos c, wrap_u64, wrap_u64, show 2 * (a0 % 18446744073709551616) % 18446744073709551616 = 2 * a0 by omega, ref_Num_eq 100 _ (by omega) (by omega) (by omega) (by omega)]; rfl
    · rw [if_neg c, if_neg c, w64 (a0 + 1) (by omega), w64 (-(a0 + 1)) (by omega), wrap_u64, wrap_u64, wrap_u64, show (2 * (-(a0 + 1) % 18446744073709551616) % 18446744073709551616 + 1) % 18446744073709551616 = -2 * a0 - 1 by omega, ref_Num_eq 100 _ (by omega) (by omega) (by omega) (by omega)]; rfl
  rw [if_pos ⟨h, e⟩]
end Go.Proofs.Ytjegkfdcelodeaa.Pure
