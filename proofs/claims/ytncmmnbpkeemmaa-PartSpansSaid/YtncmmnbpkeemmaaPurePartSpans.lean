/- For every partition, tier and hour: which partitions are right, which hours one has, and which one has the hour, by part and by the reference alike; no condition. -/
import Derived.Test.YtncmmnbpkeemmaaPx9
import Derived.Test.YtncmmnbpkeemmaaSayPartSpans
import Derived.Test.YtncmmnbpkeemmaaPrt
namespace Go.Proofs.Ytncmmnbpkeemmaa.Pure
set_option linter.unusedVariables false
set_option linter.unusedSimpArgs false
open Go.RowKit Go.Proofs.Ytncmmnbpkeemmaa.P Go.Proofs.YtncmmnbpkeemmaaW.PrintWords Go.Proofs.YtncmmnbpkeemmaaW.PrintLast Go.Proofs.Ytncmmnbpkeemmaa.Civ Go.Proofs.Ytncmmnbpkeemmaa.Cal

theorem PartSpans : ossuarylaw19_PartSpans.Pure := by
  intro a0 a1 a2 a3 _ _ _ _
  refine ⟨5000, ?_⟩
  unfold ossuarylaw19_PartSpans.f
  rw [part_Span_eq 5000 a0 a1 (by omega), ref_Span19_eq 5000 a0 a1 (by omega), part_Of_eq 5000 a2 a3 (by omega), ref_Of_eq 5000 a2 a3 (by omega), part_Right_eq 5000 a0 a1 (by omega), ref_Right_eq 5000 a0 a1 (by omega), part_Has_eq 5000 a0 a1 a3 (by omega), ref_Has_eq 5000 a0 a1 a3 (by omega), alive19 5000 (by omega)]
  simp

end Go.Proofs.Ytncmmnbpkeemmaa.Pure
