/- For every day: its date follows the one ahead, its number is that day, and it lies in its month; no condition. -/
import Derived.Test.YtncmmnbpkeemmaaPx6
import Derived.Test.YtncmmnbpkeemmaaMon
namespace Go.Proofs.Ytncmmnbpkeemmaa.Pure
set_option linter.unusedVariables false
set_option linter.unusedSimpArgs false
open Go.RowKit Go.Proofs.Ytncmmnbpkeemmaa.P Go.Proofs.YtncmmnbpkeemmaaW.PrintWords Go.Proofs.YtncmmnbpkeemmaaW.PrintLast Go.Proofs.Ytncmmnbpkeemmaa.Civ Go.Proofs.Ytncmmnbpkeemmaa.Cal

/-- The date behind a date. -/
theorem next_date (day : Int) (h0 : 0 ≤ day) (h1 : day ≤ 1100000) :
    (dateD (day + 1) = dateD day + 1 ∧ dateM (day + 1) = dateM day ∧ dateY (day + 1) = dateY day) ∨
    (dateD (day + 1) = 1 ∧ dateM (day + 1) = dateM day + 1 ∧ dateY (day + 1) = dateY day ∧ dateD day = len (dateY day) (dateM day)) ∨
    (dateD (day + 1) = 1 ∧ dateM (day + 1) = 1 ∧ dateM day = 12 ∧ dateY (day + 1) = dateY day + 1 ∧ dateD day = 31) := by
  have h := date_ok day h0 (by omega)
  have g := date_ok (day + 1) (by omega) (by omega)
  have key : ∀ y m d, 1 ≤ m ∧ m ≤ 12 → 1 ≤ d ∧ d ≤ len y m → num y m d = day + 1 → dateY (day + 1) = y ∧ dateM (day + 1) = m ∧ dateD (day + 1) = d := fun y m d hm hd hn =>
    num_inj _ _ _ y m d ⟨g.2.2.1, g.2.2.2.1⟩ ⟨g.2.2.2.2.1, g.2.2.2.2.2.1⟩ hm hd (by rw [g.2.2.2.2.2.2, hn])
  have n := h.2.2.2.2.2.2
  have c1 : ∀ y, cum y 1 = 0 := fun y => by unfold cum; simp
  by_cases c : dateD day + 1 ≤ len (dateY day) (dateM day)
  · obtain ⟨a, b, d⟩ := key (dateY day) (dateM day) (dateD day + 1) ⟨h.2.2.1, h.2.2.2.1⟩ ⟨by omega, c⟩ (by unfold num at *; omega)
    exact .inl ⟨d, b, a⟩
  · by_cases c2 : dateM day + 1 ≤ 12
    · have s := cum_succ (dateY day) (dateM day) (by omega) (by omega)
      have l := len_bd (dateY day) (dateM day + 1)
      obtain ⟨a, b, d⟩ := key (dateY day) (dateM day + 1) 1 ⟨by omega, c2⟩ ⟨by omega, by omega⟩ (by unfold num at *; omega)
      exact .inr (.inl ⟨d, b, a, by omega⟩)
    · have hm : dateM day = 12 := by omega
      have hl : len (dateY day) 12 = 31 := by unfold len; simp
      have s := cum_succ (dateY day) 12 (by omega) (by omega)
      have t := cum_13 (dateY day)
      rw [show (12 : Int) + 1 = 13 from rfl] at s
      have u := dby_succ (dateY day)
      have l := len_bd (dateY day + 1) 1
      have c1' := c1 (dateY day + 1)
      rw [hm] at h n c
      obtain ⟨a, b, d⟩ := key (dateY day + 1) 1 1 ⟨by omega, by omega⟩ ⟨by omega, by omega⟩ (by unfold num at *; omega)
      exact .inr (.inr ⟨d, b, hm, a, by omega⟩)
theorem j3_ok (k : Nat) (day : Int) (h0 : 0 ≤ day) (h1 : day ≤ 1048576) (hk : 5 ≤ k) : ossuarylaw04_CivilFollows.j3 k day (dateY day) (dateM day) (dateD day) = some true := by
  obtain ⟨k, rfl⟩ : ∃ q, k = q + 1 := ⟨k - 1, by omega⟩
  have h := date_ok day h0 (by omega)
  have hy : dateY day ≤ 4900 := by
    have a := num_year (dateY day) (dateM day) (dateD day) ⟨h.2.2.1, h.2.2.2.1⟩ ⟨h.2.2.2.2.1, h.2.2.2.2.2.1⟩
    rw [h.2.2.2.2.2.2] at a
    have b := a.1
    unfold dby at b
    omega
  have i := monOf_in day h0 (by omega)
  have b := monOf_bd day h0 (by omega)
  have b2 : monOf day ≤ 35900 := by unfold monOf; omega
  rw [ossuarylaw04_CivilFollows.j3, civil_Number_eq k _ _ _ (by omega)]
  simp only [Option.bind_some]
  rw [civil_MonthOf_eq day h0 (by omega)]
  simp only [Option.bind_some]
  rw [civil_Span_eq _ b.1 b2]
  simp only [Option.bind_some]
  rcases numO_val (dateY day) (dateM day) (dateD day) with e | e
  · exfalso
    unfold numO at e
    rw [if_neg (by omega), if_neg (by omega), if_neg (by omega), lenM_eq _ _ (by omega) (by omega), if_neg (by omega)] at e
    simp at e
  · rw [e.2.2.2.2.2.2]
    simp only
    rw [if_pos (by simp; omega), if_pos h.2.2.2.2.2.2, if_pos i.1, if_pos i.2, alive04]; rfl
theorem CivilFollows : ossuarylaw04_CivilFollows.Pure := by
  intro a0 _
  refine ⟨50, ?_⟩
  unfold ossuarylaw04_CivilFollows.f
  have yes : ossuarylaw04_CivilFollows.j0 50 a0 true = some true := by
    rw [ossuarylaw04_CivilFollows.j0, if_pos rfl, alive04]; rfl
  by_cases c0 : a0 < 1
  · rw [if_pos c0]; exact yes
  · rw [if_neg c0]
    by_cases c1 : a0 > 1048576
    · rw [decide_eq_true c1]; exact yes
    · rw [decide_eq_false c1, ossuarylaw04_CivilFollows.j0, if_neg (by decide), w64 (a0 - 1) (by omega), civil_Date_eq (a0 - 1) (by omega) (by omega)]
      simp only [Option.bind_some]
      rw [civil_Date_eq a0 (by omega) (by omega)]
      simp only [Option.bind_some]
      have h := date_ok (a0 - 1) (by omega) (by omega)
      have g := date_ok a0 (by omega) (by omega)
      have nx := next_date (a0 - 1) (by omega) (by omega)
      rw [show a0 - 1 + 1 = a0 from by omega] at nx
      have hD := w64 (dateD (a0 - 1) + 1) (by have := len_bd (dateY (a0 - 1)) (dateM (a0 - 1)); omega)
      have hM := w64 (dateM (a0 - 1) + 1) (by omega)
      have hY := w64 (dateY (a0 - 1) + 1) (by omega)
      rw [hD]
      rcases nx with ⟨e1, e2, e3⟩ | ⟨e1, e2, e3, e4⟩ | ⟨e1, e2, e3, e4, e5⟩
      · rw [if_pos e1, if_pos e2, beq_iff_eq.mpr e3, ossuarylaw04_CivilFollows.j1, if_pos rfl]
        exact j3_ok 48 a0 (by omega) (by omega) (by omega)
      · rw [if_neg (by omega), ossuarylaw04_CivilFollows.j1, if_neg (by decide), if_pos e1, hM, if_pos e2, if_pos e3, civil_Length_eq 48 _ _ (by omega)]
        simp only [Option.bind_some]
        rw [lenM_eq _ _ (by omega) (by omega), beq_iff_eq.mpr e4, ossuarylaw04_CivilFollows.j2, if_pos rfl]
        exact j3_ok 47 a0 (by omega) (by omega) (by omega)
      · rw [if_neg (by omega), ossuarylaw04_CivilFollows.j1, if_neg (by decide), if_pos e1, hM, if_neg (by omega), ossuarylaw04_CivilFollows.j2, if_neg (by decide), if_pos e1, if_pos e2, if_pos e3, hY, if_pos e4, if_pos e5]
        exact j3_ok 47 a0 (by omega) (by omega) (by omega)

end Go.Proofs.Ytncmmnbpkeemmaa.Pure
