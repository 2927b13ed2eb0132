import Derived.Test.YtjegkfdcelodeaaSayPolicyReads
namespace Go.Proofs.Ytjegkfdcelodeaa.Pure
open Go.RowKit Go.Proofs.Ytjegkfdcelodeaa.P
theorem PolicyReads : ossuarylaw18_PolicyReads.Pure := by
  intro l hm hy hw
  unfold ossuarylaw18_PolicyReads.f
  rw [if_pos]
  intro x hx
  have := hw x hx
  simp [Lit.wf, IntKind.min, IntKind.max, IntKind.bits, IntKind.signed] at this
  omega
end Go.Proofs.Ytjegkfdcelodeaa.Pure
