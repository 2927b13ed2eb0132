import Derived.Test.YtncmmnbpkeemmaaPx2
import Derived.Test.YtncmmnbpkeemmaaPx3
import Derived.Test.YtncmmnbpkeemmaaPx5
import Derived.Test.YtncmmnbpkeemmaaCal
namespace Go.Proofs.Ytncmmnbpkeemmaa.Civ
set_option linter.unusedVariables false
set_option linter.unusedSimpArgs false
open Go.RowKit Go.Proofs.Ytncmmnbpkeemmaa.P Go.Proofs.YtncmmnbpkeemmaaW.PrintWords Go.Proofs.YtncmmnbpkeemmaaW.PrintLast Go.Proofs.YtncmmnbpkeemmaaW.PrintMore Go.Proofs.Ytncmmnbpkeemmaa.Cal

theorem w64 (x : Int) (h : -9223372036854775808 ≤ x ∧ x < 9223372036854775808) : wrap64 x = x := by unfold wrap64; omega
theorem td (x k : Int) (h : 0 ≤ x) : Int.tdiv x k = x / k := Int.tdiv_eq_ediv_of_nonneg h
theorem tm (x k : Int) (h : 0 ≤ x) : Int.tmod x k = x % k := Int.tmod_eq_emod_of_nonneg h

theorem civil_Date_eq (day : Int) (h0 : 0 ≤ day) (h1 : day ≤ 4000000) : civil_Date.f day = some (dateY day, dateM day, dateD day) := by
  unfold civil_Date.f dateY dateM dateD dD dMp dDoy
  have e1 : wrap64 (day + 719468) = day + 719468 := w64 _ (by omega)
  have e2 : Int.tmod (day + 719468) 146097 = dN day := tm _ _ (by omega)
  have e3 : wrap64 (Int.tdiv (day + 719468) 146097) = dE day := by rw [td _ _ (by omega), w64 _ (by omega)]; rfl
  have n0 : 0 ≤ dN day ∧ dN day ≤ 146096 := by unfold dN; omega
  have hE : 0 ≤ dE day ∧ dE day ≤ 33 := by unfold dE; omega
  simp only [e1, e2, e3]
  clear e1 e2 e3 h0 h1
  generalize dN day = n at *
  generalize dE day = e at *
  have e1 : wrap64 (Int.tdiv n 1460) = n / 1460 := by rw [td _ _ (by omega), w64 _ (by omega)]
  have e2 : wrap64 (Int.tdiv n 36524) = n / 36524 := by rw [td _ _ (by omega), w64 _ (by omega)]
  have e3 : wrap64 (Int.tdiv n 146096) = n / 146096 := by rw [td _ _ (by omega), w64 _ (by omega)]
  have e4 : wrap64 (n - n / 1460) = n - n / 1460 := w64 _ (by omega)
  have e5 : wrap64 (n - n / 1460 + n / 36524) = n - n / 1460 + n / 36524 := w64 _ (by omega)
  have e6 : wrap64 (n - n / 1460 + n / 36524 - n / 146096) = n - n / 1460 + n / 36524 - n / 146096 := w64 _ (by omega)
  have e7 : wrap64 (Int.tdiv (n - n / 1460 + n / 36524 - n / 146096) 365) = dYo n := by rw [td _ _ (by omega), w64 _ (by omega)]; rfl
  simp only [e1, e2, e3, e4, e5, e6, e7]
  clear e1 e2 e3 e4 e5 e6 e7
  obtain ⟨y0, y1, d0, d1, _⟩ := doy_ok n n0.1 n0.2
  have hdd : n - (365 * dYo n + dYo n / 4 - dYo n / 100) = dDoy n := rfl
  have e1 : wrap64 (365 * dYo n) = 365 * dYo n := w64 _ (by omega)
  have e2 : wrap64 (Int.tdiv (dYo n) 4) = dYo n / 4 := by rw [td _ _ (by omega), w64 _ (by omega)]
  have e3 : wrap64 (Int.tdiv (dYo n) 100) = dYo n / 100 := by rw [td _ _ (by omega), w64 _ (by omega)]
  have e4 : wrap64 (365 * dYo n + dYo n / 4) = 365 * dYo n + dYo n / 4 := w64 _ (by omega)
  have e5 : wrap64 (365 * dYo n + dYo n / 4 - dYo n / 100) = 365 * dYo n + dYo n / 4 - dYo n / 100 := w64 _ (by omega)
  have e6 : wrap64 (dDoy n) = dDoy n := w64 _ (by omega)
  simp only [e1, e2, e3, e4, e5, e6, hdd]
  clear e1 e2 e3 e4 e5 e6 hdd
  generalize dDoy n = d at *
  generalize dYo n = y at *
  have e1 : wrap64 (5 * d) = 5 * d := w64 _ (by omega)
  have e2 : wrap64 (5 * d + 2) = 5 * d + 2 := w64 _ (by omega)
  have e3 : wrap64 (Int.tdiv (5 * d + 2) 153) = (5 * d + 2) / 153 := by rw [td _ _ (by omega), w64 _ (by omega)]
  simp only [e1, e2, e3]
  clear e1 e2 e3
  have hm : 0 ≤ (5 * d + 2) / 153 ∧ (5 * d + 2) / 153 ≤ 11 := by omega
  generalize (5 * d + 2) / 153 = m at *
  have e1 : wrap64 (153 * m) = 153 * m := w64 _ (by omega)
  have e2 : wrap64 (153 * m + 2) = 153 * m + 2 := w64 _ (by omega)
  have e3 : wrap64 (Int.tdiv (153 * m + 2) 5) = (153 * m + 2) / 5 := by rw [td _ _ (by omega), w64 _ (by omega)]
  have e4 : wrap64 (d - (153 * m + 2) / 5) = d - (153 * m + 2) / 5 := w64 _ (by omega)
  have e5 : wrap64 (d - (153 * m + 2) / 5 + 1) = d - (153 * m + 2) / 5 + 1 := w64 _ (by omega)
  have e6 : wrap64 (e * 400) = e * 400 := w64 _ (by omega)
  have e7 : wrap64 (e * 400 + y) = e * 400 + y := w64 _ (by omega)
  have e8 : wrap64 (e * 400 + y + 1) = e * 400 + y + 1 := w64 _ (by omega)
  have e9 : wrap64 (m + 3) = m + 3 := w64 _ (by omega)
  have e10 : wrap64 (m - 9) = m - 9 := w64 _ (by omega)
  simp only [e1, e2, e3, e4, e5, e6, e7, e8, e9, e10]
  by_cases c : m < 10
  · simp only [if_pos c]
  · simp only [if_neg c]

theorem tm0 (y k : Int) : Int.tmod y k = 0 ↔ y % k = 0 := by
  rw [← Int.dvd_iff_tmod_eq_zero, Int.dvd_iff_emod_eq_zero]
theorem civil_Leap_eq (y : Int) : civil_Leap.f y = some (lp y == 1) := by
  unfold civil_Leap.f lp
  have b4 := tm0 y 4
  have b100 := tm0 y 100
  have b400 := tm0 y 400
  have c : (Int.tmod y 400 == 0) = decide (y % 400 = 0) := by rw [Bool.eq_iff_iff]; simp [b400]
  simp only [b4, b100, c]
  by_cases h4 : y % 4 = 0
  · rw [if_pos h4, if_pos h4]
    by_cases h100 : y % 100 = 0
    · rw [if_pos h100, if_pos h100]
      by_cases h400 : y % 400 = 0 <;> simp [h400]
    · rw [if_neg h100, if_neg h100]; simp
  · rw [if_neg h4, if_neg h4]
    have : ¬ y % 400 = 0 := by omega
    simp [this]
theorem ref_Leap_eq (y : Int) : ossuaryref04_Leap.f y = some (lp y == 1) := by
  unfold ossuaryref04_Leap.f lp
  have b4 := tm0 y 4
  have b100 := tm0 y 100
  have b400 := tm0 y 400
  have c : (Int.tmod y 400 == 0) = decide (y % 400 = 0) := by rw [Bool.eq_iff_iff]; simp [b400]
  simp only [b4, b100, c]
  by_cases h4 : y % 4 = 0
  · rw [if_pos h4, if_pos h4]
    by_cases h100 : y % 100 = 0
    · rw [if_pos h100, if_pos h100]
      by_cases h400 : y % 400 = 0 <;> simp [h400]
    · rw [if_neg h100, if_neg h100]; simp
  · rw [if_neg h4, if_neg h4]; simp
def lenM (y m : Int) : Int := if 1 ≤ m ∧ m ≤ 12 then len y m else 0
theorem lp_eq1 (y : Int) : (lp y == 1) = true ∧ lp y = 1 ∨ (lp y == 1) = false ∧ lp y = 0 := by
  have := lp_01 y
  by_cases h : lp y = 1
  · left; simp [h]
  · right; simp [h]; omega
theorem civil_Length_eq (k : Nat) (y m : Int) (hk : 2 ≤ k) : civil_Length.f k y m = some (lenM y m) := by
  obtain ⟨k, rfl⟩ : ∃ q, k = q + 2 := ⟨k - 2, by omega⟩
  unfold civil_Length.f lenM
  by_cases h1 : m < 1
  · rw [if_pos h1, if_neg (by omega)]; simp [civil_Length.j0]
  · rw [if_neg h1]
    by_cases h2 : m > 12
    · rw [if_neg (by omega)]; simp [civil_Length.j0, h2]
    · rw [if_pos (by omega)]
      have hd : decide (m > 12) = false := by simpa using h2
      rw [hd]
      simp only [civil_Length.j0, civil_Length.j1]
      unfold len
      rw [civil_Leap_eq]
      rcases lp_eq1 y with ⟨e1, e2⟩ | ⟨e1, e2⟩ <;> simp only [e1, e2, Option.bind_some] <;>
      rcases cases12 m (by omega) (by omega) with rfl | rfl | rfl | rfl | rfl | rfl | rfl | rfl | rfl | rfl | rfl | rfl <;> decide +kernel
theorem ref_Length_eq (k : Nat) (y m : Int) (hk : 1 ≤ k) : ossuaryref04_Length.f k y m = some (lenM y m) := by
  obtain ⟨k, rfl⟩ : ∃ q, k = q + 1 := ⟨k - 1, by omega⟩
  unfold ossuaryref04_Length.f lenM
  by_cases h : 1 ≤ m ∧ m ≤ 12
  · rw [if_pos h]
    simp only [ossuaryref04_Length.j0]
    unfold len
    rw [ref_Leap_eq]
    rcases lp_eq1 y with ⟨e1, e2⟩ | ⟨e1, e2⟩ <;> simp only [e1, e2, Option.bind_some] <;>
    rcases cases12 m (by omega) (by omega) with rfl | rfl | rfl | rfl | rfl | rfl | rfl | rfl | rfl | rfl | rfl | rfl <;> rfl
  · rw [if_neg h]
    have a : ∀ q : Int, 1 ≤ q → q ≤ 12 → m ≠ q := fun q _ _ => by omega
    simp only [ossuaryref04_Length.j0]
    rw [if_neg (a 2 (by omega) (by omega)), if_neg (a 4 (by omega) (by omega)), if_neg (a 6 (by omega) (by omega)), if_neg (a 9 (by omega) (by omega))]
    have e11 : (m == 11) = false := by simpa using a 11 (by omega) (by omega)
    rw [e11]
    rw [if_neg (by simp), if_neg (a 1 (by omega) (by omega)), if_neg (a 3 (by omega) (by omega)), if_neg (a 5 (by omega) (by omega)), if_neg (a 7 (by omega) (by omega)), if_neg (a 8 (by omega) (by omega)), if_neg (a 10 (by omega) (by omega)), if_neg (a 12 (by omega) (by omega))]
theorem ref_days_eq (y : Int) : ossuaryref04_days.f y = some (365 + lp y) := by
  unfold ossuaryref04_days.f
  rw [ref_Leap_eq]
  rcases lp_eq1 y with ⟨e1, e2⟩ | ⟨e1, e2⟩ <;> simp [e2]

theorem civil_number_eq (y m d : Int) (hy : 1 ≤ y) (hy2 : y ≤ 100000) (h1 : 1 ≤ m) (h2 : m ≤ 12) (d1 : 1 ≤ d) (d2 : d ≤ 31) : civil_number.f y m d = some (num y m d) := by
  rw [← gnum_eq y m d hy h1 h2]
  unfold civil_number.f gnum
  have e0 : wrap64 (m - 3) = m - 3 := w64 _ (by omega)
  have f0 : wrap64 (y - 1) = y - 1 := w64 _ (by omega)
  have f1 : Int.tmod (y - 1) 400 = (y - 1) % 400 := tm _ _ (by omega)
  have f2 : wrap64 (Int.tdiv (y - 1) 400) = (y - 1) / 400 := by rw [td _ _ (by omega), w64 _ (by omega)]
  have g1 : Int.tmod y 400 = y % 400 := tm _ _ (by omega)
  have g2 : wrap64 (Int.tdiv y 400) = y / 400 := by rw [td _ _ (by omega), w64 _ (by omega)]
  simp only [e0, f0, f1, f2, g1, g2]
  have b1 : 0 ≤ (y - 1) % 400 ∧ (y - 1) % 400 < 400 := by omega
  have b2 : 0 ≤ (y - 1) / 400 ∧ (y - 1) / 400 ≤ 100000 := by omega
  have b3 : 0 ≤ y % 400 ∧ y % 400 < 400 := by omega
  have b4 : 0 ≤ y / 400 ∧ y / 400 ≤ 100000 := by omega
  clear e0 f0 f1 f2 g1 g2
  generalize (y - 1) % 400 = p at *
  generalize (y - 1) / 400 = q at *
  generalize y % 400 = p' at *
  generalize y / 400 = q' at *
  by_cases c : m < 3
  · rw [if_pos (by omega), if_pos c]
    have e1 : wrap64 (q * 146097) = q * 146097 := w64 _ (by omega)
    have e2 : wrap64 (365 * p) = 365 * p := w64 _ (by omega)
    have e3 : wrap64 (Int.tdiv p 4) = p / 4 := by rw [td _ _ (by omega), w64 _ (by omega)]
    have e4 : wrap64 (Int.tdiv p 100) = p / 100 := by rw [td _ _ (by omega), w64 _ (by omega)]
    have e5 : wrap64 (365 * p + p / 4) = 365 * p + p / 4 := w64 _ (by omega)
    have e6 : wrap64 (365 * p + p / 4 - p / 100) = 365 * p + p / 4 - p / 100 := w64 _ (by omega)
    have e7 : wrap64 (m - 3 + 12) = m - 3 + 12 := w64 _ (by omega)
    have e8 : wrap64 (153 * (m - 3 + 12)) = 153 * (m - 3 + 12) := w64 _ (by omega)
    have e9 : wrap64 (153 * (m - 3 + 12) + 2) = 153 * (m - 3 + 12) + 2 := w64 _ (by omega)
    have e10 : wrap64 (Int.tdiv (153 * (m - 3 + 12) + 2) 5) = (153 * (m - 3 + 12) + 2) / 5 := by rw [td _ _ (by omega), w64 _ (by omega)]
    simp only [e1, e2, e3, e4, e5, e6, e7, e8, e9, e10]
    have b5 : 0 ≤ (153 * (m - 3 + 12) + 2) / 5 ∧ (153 * (m - 3 + 12) + 2) / 5 ≤ 400 := by omega
    have b6 : 0 ≤ 365 * p + p / 4 - p / 100 ∧ 365 * p + p / 4 - p / 100 ≤ 200000 := by omega
    generalize (153 * (m - 3 + 12) + 2) / 5 = u at *
    generalize 365 * p + p / 4 - p / 100 = v at *
    have e1 : wrap64 (v + u) = v + u := w64 _ (by omega)
    have e2 : wrap64 (v + u + d) = v + u + d := w64 _ (by omega)
    have e3 : wrap64 (v + u + d - 1) = v + u + d - 1 := w64 _ (by omega)
    have e4 : wrap64 (q * 146097 + (v + u + d - 1)) = q * 146097 + (v + u + d - 1) := w64 _ (by omega)
    have e5 : wrap64 (q * 146097 + (v + u + d - 1) - 719468) = q * 146097 + (v + u + d - 1) - 719468 := w64 _ (by omega)
    simp only [e1, e2, e3, e4, e5]
  · rw [if_neg (by omega), if_neg c]
    have e1 : wrap64 (q' * 146097) = q' * 146097 := w64 _ (by omega)
    have e2 : wrap64 (365 * p') = 365 * p' := w64 _ (by omega)
    have e3 : wrap64 (Int.tdiv p' 4) = p' / 4 := by rw [td _ _ (by omega), w64 _ (by omega)]
    have e4 : wrap64 (Int.tdiv p' 100) = p' / 100 := by rw [td _ _ (by omega), w64 _ (by omega)]
    have e5 : wrap64 (365 * p' + p' / 4) = 365 * p' + p' / 4 := w64 _ (by omega)
    have e6 : wrap64 (365 * p' + p' / 4 - p' / 100) = 365 * p' + p' / 4 - p' / 100 := w64 _ (by omega)
    have e8 : wrap64 (153 * (m - 3)) = 153 * (m - 3) := w64 _ (by omega)
    have e9 : wrap64 (153 * (m - 3) + 2) = 153 * (m - 3) + 2 := w64 _ (by omega)
    have e10 : wrap64 (Int.tdiv (153 * (m - 3) + 2) 5) = (153 * (m - 3) + 2) / 5 := by rw [td _ _ (by omega), w64 _ (by omega)]
    simp only [e1, e2, e3, e4, e5, e6, e8, e9, e10]
    have b5 : 0 ≤ (153 * (m - 3) + 2) / 5 ∧ (153 * (m - 3) + 2) / 5 ≤ 400 := by omega
    have b6 : 0 ≤ 365 * p' + p' / 4 - p' / 100 ∧ 365 * p' + p' / 4 - p' / 100 ≤ 200000 := by omega
    generalize (153 * (m - 3) + 2) / 5 = u at *
    generalize 365 * p' + p' / 4 - p' / 100 = v at *
    have e1 : wrap64 (v + u) = v + u := w64 _ (by omega)
    have e2 : wrap64 (v + u + d) = v + u + d := w64 _ (by omega)
    have e3 : wrap64 (v + u + d - 1) = v + u + d - 1 := w64 _ (by omega)
    have e4 : wrap64 (q' * 146097 + (v + u + d - 1)) = q' * 146097 + (v + u + d - 1) := w64 _ (by omega)
    have e5 : wrap64 (q' * 146097 + (v + u + d - 1) - 719468) = q' * 146097 + (v + u + d - 1) - 719468 := w64 _ (by omega)
    simp only [e1, e2, e3, e4, e5]
end Go.Proofs.Ytncmmnbpkeemmaa.Civ
