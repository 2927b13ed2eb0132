import Derived.Test.YtjegkfdcelodeaaSayAskBack
namespace Go.Proofs.Ytjegkfdcelodeaa.Pure
open Go.RowKit Go.Proofs.Ytjegkfdcelodeaa.P
theorem AskBack : ossuarylaw13_AskBack.Pure := by
  intro q l dims fr k _ _ _ _ hw _ _ _
  unfold ossuarylaw13_AskBack.f
  rw [if_pos]
  intro x hx
  have := hw x hx
  simp [Lit.wf, IntKind.min, IntKind.max, IntKind.bits, IntKind.signed] at this
  omega
end Go.Proofs.Ytjegkfdcelodeaa.Pure
