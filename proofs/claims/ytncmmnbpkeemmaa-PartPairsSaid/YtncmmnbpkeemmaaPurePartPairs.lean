/- For every two partitions: how they stand to each other, by part and by the reference alike; no condition. -/
import Derived.Test.YtncmmnbpkeemmaaPx11
import Derived.Test.YtncmmnbpkeemmaaSayPartPairs
import Derived.Test.YtncmmnbpkeemmaaPrt
namespace Go.Proofs.Ytncmmnbpkeemmaa.Pure
set_option linter.unusedVariables false
set_option linter.unusedSimpArgs false
open Go.RowKit Go.Proofs.Ytncmmnbpkeemmaa.P Go.Proofs.YtncmmnbpkeemmaaW.PrintWords Go.Proofs.YtncmmnbpkeemmaaW.PrintLast Go.Proofs.Ytncmmnbpkeemmaa.Civ Go.Proofs.Ytncmmnbpkeemmaa.Cal

theorem PartPairs : ossuarylaw19_PartPairs.Pure := by
  intro a0 a1 b0 b1 _ _ _ _
  refine ⟨5000, ?_⟩
  unfold ossuarylaw19_PartPairs.f
  rw [part_Within_eq 5000 a0 a1 b0 b1 (by omega), ref_Within_eq 5000 a0 a1 b0 b1 (by omega), part_Meets_eq 5000 a0 a1 b0 b1 (by omega), ref_Meets_eq 5000 a0 a1 b0 b1 (by omega), part_Less_eq 5000 a0 a1 b0 b1 (by omega), ref_Less_eq 5000 a0 a1 b0 b1 (by omega), alive19 5000 (by omega)]
  simp

end Go.Proofs.Ytncmmnbpkeemmaa.Pure
