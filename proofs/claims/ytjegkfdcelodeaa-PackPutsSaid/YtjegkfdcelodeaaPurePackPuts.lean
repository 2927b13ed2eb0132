import Derived.Test.YtjegkfdcelodeaaSayPackPuts
namespace Go.Proofs.Ytjegkfdcelodeaa.Pure
open Go.RowKit Go.Proofs.Ytjegkfdcelodeaa.P
theorem PackPuts : ossuarylaw01_PackPuts.Pure := by
  intro l hl
  unfold ossuarylaw01_PackPuts.f
  rw [if_pos]
  rw [List.all_eq_true]
  intro p hp
  obtain ⟨-, -, h2, h3, -⟩ := hl p hp
  simp [Lit.wf, IntKind.min, IntKind.max, IntKind.bits, IntKind.signed] at h2 h3
  simp [okB]
  omega
end Go.Proofs.Ytjegkfdcelodeaa.Pure
