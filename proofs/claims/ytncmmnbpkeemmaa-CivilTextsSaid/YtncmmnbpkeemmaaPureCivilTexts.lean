/- For every hour and every text: the text of the hour, and the hour of the text or that there is none, by civil and by the reference alike; no condition. -/
import Derived.Test.YtncmmnbpkeemmaaPx13
import Derived.Test.YtncmmnbpkeemmaaPx14
import Derived.Test.YtncmmnbpkeemmaaStq
namespace Go.Proofs.Ytncmmnbpkeemmaa.Pure
set_option linter.unusedVariables false
set_option linter.unusedSimpArgs false
open Go.RowKit Go.Proofs.Ytncmmnbpkeemmaa.P Go.Proofs.YtncmmnbpkeemmaaW.PrintWords Go.Proofs.YtncmmnbpkeemmaaW.PrintLast Go.Proofs.Ytncmmnbpkeemmaa.Civ Go.Proofs.Ytncmmnbpkeemmaa.Cal

theorem CivilTexts : ossuarylaw04_CivilTexts.Pure := by
  intro a0 a1 _ _
  refine ⟨6001, ?_⟩
  unfold ossuarylaw04_CivilTexts.f
  have yes : ossuarylaw04_CivilTexts.j0 6001 a0 a1 true = some true := by
    rw [ossuarylaw04_CivilTexts.j0, if_pos rfl, alive04]; rfl
  by_cases c0 : a0 < 0
  · rw [if_pos c0]; exact yes
  · rw [if_neg c0]
    by_cases c1 : a0 > 16777216
    · rw [if_pos c1]; exact yes
    · rw [if_neg c1]
      by_cases c2 : (a1.size : Int) > 100
      · rw [decide_eq_true c2]; exact yes
      · rw [decide_eq_false c2, ossuarylaw04_CivilTexts.j0, if_neg (by decide), ref_Parse_eq 6000 a1 (by omega), civil_Text_eq a0 (by omega) (by omega), ref_Text_eq 6000 a0 (by omega) (by omega) (by omega)]
        have h6 : civil_Parse.f 6000 a1 = civil_Parse.f 2 a1 := by
          classical rw [civil_Parse_eq 6000 a1 (by omega), civil_Parse_eq 2 a1 (by omega)]
        rw [h6]
        obtain ⟨r, hr⟩ : ∃ r, civil_Parse.f 2 a1 = some r := by
          classical exact ⟨_, civil_Parse_eq 2 a1 (by omega)⟩
        rw [hr]
        simp only [Option.bind_some]
        have ht : strOfNums (rowL (dateY (a0 / 24)) (dateM (a0 / 24)) (dateD (a0 / 24)) (a0 % 24)) = txt a0 := rfl
        rw [ht]
        simp [alive04]

end Go.Proofs.Ytncmmnbpkeemmaa.Pure
