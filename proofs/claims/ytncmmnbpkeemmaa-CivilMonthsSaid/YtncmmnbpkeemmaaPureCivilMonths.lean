/- For every day, month and hour: the month of the day, the days of the month, the day of the hour, by civil and by the reference alike; no condition. -/
import Derived.Test.YtncmmnbpkeemmaaPx5
import Derived.Test.YtncmmnbpkeemmaaMon
namespace Go.Proofs.Ytncmmnbpkeemmaa.Pure
set_option linter.unusedVariables false
set_option linter.unusedSimpArgs false
open Go.RowKit Go.Proofs.Ytncmmnbpkeemmaa.P Go.Proofs.YtncmmnbpkeemmaaW.PrintWords Go.Proofs.YtncmmnbpkeemmaaW.PrintLast Go.Proofs.Ytncmmnbpkeemmaa.Civ Go.Proofs.Ytncmmnbpkeemmaa.Cal

theorem CivilMonths : ossuarylaw04_CivilMonths.Pure := by
  intro a0 a1 a2 _ _ _
  refine ⟨5001, ?_⟩
  unfold ossuarylaw04_CivilMonths.f
  have yes : ossuarylaw04_CivilMonths.j0 5001 a0 a1 a2 true = some true := by
    rw [ossuarylaw04_CivilMonths.j0, if_pos rfl, alive04]; rfl
  by_cases c0 : a0 < 0
  · rw [if_pos c0]; exact yes
  · rw [if_neg c0]
    by_cases c1 : a0 > 1048576
    · rw [if_pos c1]; exact yes
    · rw [if_neg c1]
      by_cases c2 : a1 < 0
      · rw [if_pos c2]; exact yes
      · rw [if_neg c2]
        by_cases c3 : a1 > 35000
        · rw [if_pos c3]; exact yes
        · rw [if_neg c3]
          by_cases c4 : a2 < 0
          · rw [if_pos c4]; exact yes
          · rw [if_neg c4]
            by_cases c5 : a2 > 16777216
            · rw [decide_eq_true c5]; exact yes
            · rw [decide_eq_false c5, ossuarylaw04_CivilMonths.j0, if_neg (by decide), civil_Span_eq a1 (by omega) (by omega)]
              simp only [Option.bind_some]
              rw [ref_Span_eq 5000 a1 (by omega) (by omega) (by omega), civil_MonthOf_eq a0 (by omega) (by omega), ref_MonthOf_eq 5000 a0 (by omega) (by omega) (by omega), civil_DayOf_eq a2 (by omega) (by omega)]
              simp only [Option.bind_some]
              rw [td a2 24 (by omega), w64 _ (by omega)]
              simp [alive04]

end Go.Proofs.Ytncmmnbpkeemmaa.Pure
