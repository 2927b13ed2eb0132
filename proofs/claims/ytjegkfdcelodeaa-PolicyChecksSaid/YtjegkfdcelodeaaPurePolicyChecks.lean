import Derived.Test.YtjegkfdcelodeaaNum
import Derived.Test.YtjegkfdcelodeaaSayPolicyChecks
namespace Go.Proofs.Ytjegkfdcelodeaa.Pure
set_option linter.unusedVariables false
set_option linter.unusedSimpArgs false
open Go.RowKit Go.Proofs.Ytjegkfdcelodeaa.P Go.Proofs.Ytjegkfdcelodeaa.Pol Go.Proofs.YtjegkfdcelodeaaW.PrintWords Go.Proofs.YtjegkfdcelodeaaW.PrintLast Go.Proofs.YtjegkfdcelodeaaW.PrintMore

theorem PolicyChecks : ossuarylaw18_PolicyChecks.Pure := by
  intro a0 a1 a2 a3 a4 a5 a6 a7 a8 _ _ _ _ _ _ _ _ _
  refine ⟨100, ?_⟩
  unfold ossuarylaw18_PolicyChecks.f
  rw [policy_Encode_eq, ref_Encode_eq, policy_Check_eq, ref_Check_eq _ _ _ _ _ _ _ _ _ _ (by omega)]
  simp only [Option.bind_some]
  rw [ref_Same_refl, if_pos trivial]
  simp only [Option.bind_some]
  rw [if_pos trivial, if_pos trivial, alive18]; rfl
end Go.Proofs.Ytjegkfdcelodeaa.Pure
