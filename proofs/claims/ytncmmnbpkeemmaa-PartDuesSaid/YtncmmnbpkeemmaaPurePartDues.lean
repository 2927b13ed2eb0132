/- For every partition, hour of a fact, policy and hour: which partitions are due, and the best tier of the hour, by part and by the reference alike; no condition. -/
import Derived.Test.YtncmmnbpkeemmaaPx24
import Derived.Test.YtncmmnbpkeemmaaSayPartDues
import Derived.Test.YtncmmnbpkeemmaaDue
namespace Go.Proofs.Ytncmmnbpkeemmaa.Pure
set_option linter.unusedVariables false
set_option linter.unusedSimpArgs false
open Go.RowKit Go.Proofs.Ytncmmnbpkeemmaa.P Go.Proofs.YtncmmnbpkeemmaaW.PrintWords Go.Proofs.YtncmmnbpkeemmaaW.PrintLast Go.Proofs.Ytncmmnbpkeemmaa.Civ Go.Proofs.Ytncmmnbpkeemmaa.Cal

theorem PartDues : ossuarylaw19_PartDues.Pure := by
  intro p0 p1 o a0 a1 a2 a3 a4 a5 a6 a7 a8 h _ _ _ _ _ _ _ _ _ _ _ _ _
  refine ⟨5001, ?_⟩
  have yes : ossuarylaw19_PartDues.j0 5001 o h true p0 p1 a0 a1 a2 a3 a4 a5 a6 a7 a8 = some true := by
    rw [ossuarylaw19_PartDues.j0, if_pos rfl, alive19 5000 (by omega)]; rfl
  unfold ossuarylaw19_PartDues.f
  by_cases c0 : h < -4611686018427387904
  · rw [if_pos c0]; exact yes
  · rw [if_neg c0]
    by_cases c1 : h > 4611686018427387904
    · rw [decide_eq_true c1]; exact yes
    · rw [decide_eq_false c1, ossuarylaw19_PartDues.j0, if_neg (by decide), part_Due_eq 5000 _ _ _ _ _ _ _ _ _ _ _ _ (by omega) (by omega) (by omega), ref_Due_eq 5000 _ _ _ _ _ _ _ _ _ _ _ _ (by omega), part_Best_eq 5000 _ _ _ _ _ _ _ _ _ _ _ (by omega) (by omega) (by omega), ref_Best_eq 5000 _ _ _ _ _ _ _ _ _ _ _ (by omega), alive19 5000 (by omega)]
      simp

end Go.Proofs.Ytncmmnbpkeemmaa.Pure
