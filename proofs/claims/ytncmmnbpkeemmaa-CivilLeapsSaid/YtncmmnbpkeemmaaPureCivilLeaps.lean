/- For every year and every month: which years are leap years, and how long their months are, by civil and by the reference alike; no condition. -/
import Derived.Test.YtncmmnbpkeemmaaPx3
import Derived.Test.YtncmmnbpkeemmaaRef
namespace Go.Proofs.Ytncmmnbpkeemmaa.Pure
open Go.RowKit Go.Proofs.Ytncmmnbpkeemmaa.P Go.Proofs.YtncmmnbpkeemmaaW.PrintWords Go.Proofs.YtncmmnbpkeemmaaW.PrintLast Go.Proofs.Ytncmmnbpkeemmaa.Civ Go.Proofs.Ytncmmnbpkeemmaa.Cal

theorem CivilLeaps : ossuarylaw04_CivilLeaps.Pure := by
  intro a0 a1 _ _
  refine ⟨5, ?_⟩
  unfold ossuarylaw04_CivilLeaps.f
  have yes : ossuarylaw04_CivilLeaps.j0 5 a0 a1 true = some true := by
    simp only [ossuarylaw04_CivilLeaps.j0, alive04]; rfl
  have no : ossuarylaw04_CivilLeaps.j0 5 a0 a1 false = some true := by
    simp only [ossuarylaw04_CivilLeaps.j0]
    rw [if_neg (by decide), civil_Leap_eq, ref_Leap_eq]
    simp only [Option.bind_some]
    rw [if_pos (by simp), civil_Length_eq 4 a0 a1 (by omega), ref_Length_eq 4 a0 a1 (by omega)]
    simp only [Option.bind_some]
    simp [alive04]
  split
  · exact yes
  · cases decide (a0 > 4900) with
    | true => exact yes
    | false => exact no

end Go.Proofs.Ytncmmnbpkeemmaa.Pure
