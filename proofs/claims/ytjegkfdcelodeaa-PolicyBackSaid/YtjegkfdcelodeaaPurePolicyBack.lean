import Derived.Test.YtjegkfdcelodeaaSayPolicyBack
namespace Go.Proofs.Ytjegkfdcelodeaa.Pure
set_option linter.unusedVariables false
set_option linter.unusedSimpArgs false
open Go.RowKit Go.Proofs.Ytjegkfdcelodeaa.P

theorem of_wfb {n : Int} (h : (Lit.int .i64 n).wf = true) : -9223372036854775808 ≤ n ∧ n ≤ 9223372036854775807 := by
  simp [Lit.wf, IntKind.min, IntKind.max, IntKind.bits, IntKind.signed] at h; omega
theorem PolicyBack : ossuarylaw18_PolicyBack.Pure := by
  intro a0 a1 a2 a3 a4 a5 a6 a7 a8 xa xb _ _ _ _ _ _ _ _ _ ha hb
  exact if_pos ⟨(of_wfb ha).2, (of_wfb hb).2⟩
end Go.Proofs.Ytjegkfdcelodeaa.Pure
