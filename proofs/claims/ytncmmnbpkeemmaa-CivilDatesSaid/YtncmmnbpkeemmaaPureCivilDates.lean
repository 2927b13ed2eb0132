/- For every day, year, month and day of a month: the date of the day, and the day of the date, by civil and by the reference alike; no condition. -/
import Derived.Test.YtncmmnbpkeemmaaPx5
import Derived.Test.YtncmmnbpkeemmaaRef
namespace Go.Proofs.Ytncmmnbpkeemmaa.Pure
set_option linter.unusedVariables false
set_option linter.unusedSimpArgs false
open Go.RowKit Go.Proofs.Ytncmmnbpkeemmaa.P Go.Proofs.YtncmmnbpkeemmaaW.PrintWords Go.Proofs.YtncmmnbpkeemmaaW.PrintLast Go.Proofs.Ytncmmnbpkeemmaa.Civ Go.Proofs.Ytncmmnbpkeemmaa.Cal

theorem CivilDates : ossuarylaw04_CivilDates.Pure := by
  intro a0 a1 a2 a3 _ _ _ _
  refine ⟨5001, ?_⟩
  unfold ossuarylaw04_CivilDates.f
  have yes : ossuarylaw04_CivilDates.j0 5001 a0 a1 a2 a3 true = some true := by
    rw [ossuarylaw04_CivilDates.j0, if_pos rfl, alive04]; rfl
  by_cases c0 : a0 < 0
  · rw [if_pos c0]; exact yes
  · rw [if_neg c0]
    by_cases c1 : a0 > 1048576
    · rw [decide_eq_true c1]; exact yes
    · rw [decide_eq_false c1, ossuarylaw04_CivilDates.j0, if_neg (by decide), civil_Date_eq a0 (by omega) (by omega)]
      simp only [Option.bind_some]
      rw [ref_Date_eq 5000 a0 (by omega) (by omega) (by omega)]
      simp only [Option.bind_some]
      rw [civil_Number_eq 5000 a1 a2 a3 (by omega), ref_Number_eq 5000 a1 a2 a3 (by omega)]
      simp only [Option.bind_some]
      simp [alive04]

end Go.Proofs.Ytncmmnbpkeemmaa.Pure
