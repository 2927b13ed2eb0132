/- For every hour and every text: the hour's text is read as that hour, and what is read of the text has just that text; no condition. -/
import Derived.Test.YtncmmnbpkeemmaaPx2
import Derived.Test.YtncmmnbpkeemmaaPx15
import Derived.Test.YtncmmnbpkeemmaaStq
namespace Go.Proofs.Ytncmmnbpkeemmaa.Pure
set_option linter.unusedVariables false
set_option linter.unusedSimpArgs false
open Go.RowKit Go.Proofs.Ytncmmnbpkeemmaa.P Go.Proofs.YtncmmnbpkeemmaaW.PrintWords Go.Proofs.YtncmmnbpkeemmaaW.PrintLast Go.Proofs.Ytncmmnbpkeemmaa.Civ Go.Proofs.Ytncmmnbpkeemmaa.Cal

theorem CivilBack : ossuarylaw04_CivilBack.Pure := by
  intro a0 a1 _ _
  refine ⟨50, ?_⟩
  unfold ossuarylaw04_CivilBack.f
  have yes : ossuarylaw04_CivilBack.j0 50 a0 a1 true = some true := by
    rw [ossuarylaw04_CivilBack.j0, if_pos rfl, alive04]; rfl
  by_cases c0 : a0 < 0
  · rw [if_pos c0]; exact yes
  · rw [if_neg c0]
    by_cases c1 : a0 > 16777216
    · rw [if_pos c1]; exact yes
    · rw [if_neg c1]
      by_cases c2 : (a1.size : Int) > 100
      · rw [decide_eq_true c2]; exact yes
      · have ht : civil_Text.f a0 = some (txt a0) := civil_Text_eq a0 (by omega) (by omega)
        rw [decide_eq_false c2, ossuarylaw04_CivilBack.j0, if_neg (by decide), ht]
        simp only [Option.bind_some]
        rw [parse_txt 49 a0 (by omega) (by omega) (by omega)]
        simp only [Option.bind_some, if_true]
        rw [txt_size a0 (by omega) (by omega)]
        have e13 : (((13 : Nat) : Int) != 13) = false := by decide
        rw [e13, ossuarylaw04_CivilBack.j1, if_neg (by decide)]
        rcases parse_val 48 a1 (by omega) with e | ⟨n, e, n0, n1, t, _⟩
        · rw [e]
          simp [alive04]
        · rw [e]
          simp only [Option.bind_some, if_true]
          have hn : civil_Text.f n = some (txt n) := civil_Text_eq n (by omega) (by omega)
          rw [if_pos n0, if_pos n1, hn]
          simp only [Option.bind_some]
          rw [t, if_pos rfl, alive04]; rfl

end Go.Proofs.Ytncmmnbpkeemmaa.Pure
