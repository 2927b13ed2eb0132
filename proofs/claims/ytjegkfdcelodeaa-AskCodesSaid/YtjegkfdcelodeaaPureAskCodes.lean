import Derived.Test.YtjegkfdcelodeaaSayAskCodes
namespace Go.Proofs.Ytjegkfdcelodeaa.Pure
open Go.RowKit Go.Proofs.Ytjegkfdcelodeaa.P
theorem AskCodes : ossuarylaw13_AskCodes.Pure := by
  intro q l dims _ _ hm hy hw _
  unfold ossuarylaw13_AskCodes.f
  rw [if_pos]
  intro x hx
  have := hw x hx
  simp [Lit.wf, IntKind.min, IntKind.max, IntKind.bits, IntKind.signed] at this
  omega
end Go.Proofs.Ytjegkfdcelodeaa.Pure
