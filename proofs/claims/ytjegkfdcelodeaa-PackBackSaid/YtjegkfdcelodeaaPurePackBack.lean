import Derived.Test.YtjegkfdcelodeaaSayPackBack
namespace Go.Proofs.Ytjegkfdcelodeaa.Pure
open Go.RowKit Go.Proofs.Ytjegkfdcelodeaa.P
theorem PackBack : ossuarylaw01_PackBack.Pure := by
  intro l a hl ha
  simp [Lit.wf, IntKind.min, IntKind.max, IntKind.bits, IntKind.signed] at ha
  unfold ossuarylaw01_PackBack.f
  rw [if_pos]
  refine ⟨?_, by omega, by omega⟩
  rw [List.all_eq_true]
  intro p hp
  obtain ⟨-, -, h2, h3, -⟩ := hl p hp
  simp [Lit.wf, IntKind.min, IntKind.max, IntKind.bits, IntKind.signed] at h2 h3
  simp [okB]
  omega
end Go.Proofs.Ytjegkfdcelodeaa.Pure
