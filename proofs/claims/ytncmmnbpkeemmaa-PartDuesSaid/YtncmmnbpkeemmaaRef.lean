import Derived.Test.YtncmmnbpkeemmaaPx5
import Derived.Test.YtncmmnbpkeemmaaPx6
import Derived.Test.YtncmmnbpkeemmaaPx8
import Derived.Test.YtncmmnbpkeemmaaTxt
namespace Go.Proofs.Ytncmmnbpkeemmaa.Civ
set_option linter.unusedVariables false
set_option linter.unusedSimpArgs false
open Go.RowKit Go.Proofs.Ytncmmnbpkeemmaa.P Go.Proofs.YtncmmnbpkeemmaaW.PrintWords Go.Proofs.YtncmmnbpkeemmaaW.PrintLast Go.Proofs.YtncmmnbpkeemmaaW.PrintMore Go.Proofs.Ytncmmnbpkeemmaa.Cal

theorem lenM_eq (y m : Int) (h1 : 1 ≤ m) (h2 : m ≤ 12) : lenM y m = len y m := by unfold lenM; rw [if_pos ⟨h1, h2⟩]
/-- The months of ref.Date: from month m on, r days of the year's rest being left. -/
theorem ref_Date_l1 (y : Int) (n : Nat) : ∀ (k : Nat) (r m : Int), 1 ≤ m → m + n = 12 → 0 ≤ r → r + cum y m < 365 + lp y → n + 3 < k →
    ∃ M D, ossuaryref04_Date.l1 k r y m = some (y, M, D) ∧ 1 ≤ M ∧ M ≤ 12 ∧ 1 ≤ D ∧ D ≤ len y M ∧ cum y M + D - 1 = cum y m + r := by
  induction n with
  | zero =>
    intro k r m h1 h2 h3 h4 hk
    obtain rfl : m = 12 := by omega
    obtain ⟨k, rfl⟩ : ∃ q, k = q + 1 := ⟨k - 1, by omega⟩
    have a := cum_succ y 12 (by omega) (by omega)
    have b := cum_13 y
    have l := len_bd y 12
    have l2 := lp_01 y
    simp only [ossuaryref04_Date.l1]
    rw [if_neg (by omega)]
    have c := cum_bd y 12 (by omega) (by omega)
    refine ⟨12, r + 1, ?_, by omega, by omega, by omega, ?_, by omega⟩
    · rw [w64 _ (by omega)]
    · have e : (12 : Int) + 1 = 13 := by omega
      rw [e] at a
      omega
  | succ n ih =>
    intro k r m h1 h2 h3 h4 hk
    obtain ⟨k, rfl⟩ : ∃ q, k = q + 1 := ⟨k - 1, by omega⟩
    have a := cum_succ y m (by omega) (by omega)
    have l := len_bd y m
    have l2 := lp_01 y
    have c := cum_bd y m (by omega) (by omega)
    simp only [ossuaryref04_Date.l1]
    rw [if_pos (by omega), ref_Length_eq k y m (by omega), lenM_eq y m h1 (by omega)]
    simp only [Option.bind_some]
    by_cases hr : r ≥ len y m
    · rw [if_pos hr, w64 _ (by omega), w64 _ (by omega)]
      obtain ⟨M, D, e, p⟩ := ih k (r - len y m) (m + 1) (by omega) (by omega) (by omega) (by omega) (by omega)
      exact ⟨M, D, e, p.1, p.2.1, p.2.2.1, p.2.2.2.1, by omega⟩
    · rw [if_neg hr, w64 _ (by omega)]
      exact ⟨m, r + 1, rfl, h1, by omega, by omega, by omega, by omega⟩
theorem ref_Date_l0 (n : Nat) : ∀ (k : Nat) (r y : Int), 1970 ≤ y → y + n = 5000 → 0 ≤ r → dby y + r < dby 5000 → n + 20 < k →
    ∃ Y M D, ossuaryref04_Date.l0 k r y = some (Y, M, D) ∧ 1 ≤ M ∧ M ≤ 12 ∧ 1 ≤ D ∧ D ≤ len Y M ∧ num Y M D = dby y + r := by
  induction n with
  | zero =>
    intro k r y h1 h2 h3 h4 hk
    obtain rfl : y = 5000 := by omega
    omega
  | succ n ih =>
    intro k r y h1 h2 h3 h4 hk
    obtain ⟨k, rfl⟩ : ∃ q, k = q + 1 := ⟨k - 1, by omega⟩
    have l2 := lp_01 y
    have hs := dby_succ y
    have hm := dby_mono y 5000 (by omega)
    have hm2 := dby_mono (y + 1) 5000 (by omega)
    simp only [ossuaryref04_Date.l0]
    rw [ref_days_eq]
    simp only [Option.bind_some]
    by_cases hr : r ≥ 365 + lp y
    · rw [if_pos hr, if_pos (by omega), w64 _ (by omega), w64 _ (by omega)]
      obtain ⟨Y, M, D, e, p⟩ := ih k (r - (365 + lp y)) (y + 1) (by omega) (by omega) (by omega) (by omega) (by omega)
      exact ⟨Y, M, D, e, p.1, p.2.1, p.2.2.1, p.2.2.2.1, by omega⟩
    · rw [if_neg hr]
      obtain ⟨k, rfl⟩ : ∃ q, k = q + 1 := ⟨k - 1, by omega⟩
      simp only [ossuaryref04_Date.j1]
      have c1 : cum y 1 = 0 := by unfold cum; simp
      obtain ⟨M, D, e, p⟩ := ref_Date_l1 y 11 k r 1 (by omega) (by omega) h3 (by omega) (by omega)
      refine ⟨y, M, D, e, p.1, p.2.1, p.2.2.1, p.2.2.2.1, ?_⟩
      unfold num
      omega
theorem dby_5000 : dby 5000 = 1106685 := by decide
theorem dby_1970 : dby 1970 = 0 := by decide
theorem ref_Date_eq (k : Nat) (day : Int) (h0 : 0 ≤ day) (h1 : day ≤ 1100000) (hk : 3060 < k) : ossuaryref04_Date.f k day = some (dateY day, dateM day, dateD day) := by
  unfold ossuaryref04_Date.f
  have a := dby_5000
  have b := dby_1970
  obtain ⟨Y, M, D, e, m1, m2, d1, d2, hn⟩ := ref_Date_l0 3030 k day 1970 (by omega) (by omega) h0 (by omega) (by omega)
  rw [e]
  have h := date_ok day h0 (by omega)
  obtain ⟨rfl, rfl, rfl⟩ := num_inj Y M D (dateY day) (dateM day) (dateD day) ⟨m1, m2⟩ ⟨d1, d2⟩ ⟨h.2.2.1, h.2.2.2.1⟩ ⟨h.2.2.2.2.1, h.2.2.2.2.2.1⟩ (by rw [h.2.2.2.2.2.2, hn]; omega)
  rfl
theorem ref_Number_l1 (y d : Int) (hd : 0 ≤ d ∧ d ≤ 40) (n : Nat) : ∀ (k : Nat) (m m0 acc : Int), 1 ≤ m0 → m0 + n = m → m ≤ 12 → -1000000000 ≤ acc → acc ≤ 1000000000 - 31 * n → n + 3 < k →
    ossuaryref04_Number.l1 k y m d acc m0 = some (acc + (cum y m - cum y m0) + d - 1, true) := by
  induction n with
  | zero =>
    intro k m m0 acc h1 h2 h3 a0 a1 hk
    obtain rfl : m = m0 := by omega
    obtain ⟨k, rfl⟩ : ∃ q, k = q + 1 := ⟨k - 1, by omega⟩
    simp only [ossuaryref04_Number.l1]
    rw [if_neg (by omega), w64 (acc + d) (by omega), w64 _ (by omega)]
    congr 2; omega
  | succ n ih =>
    intro k m m0 acc h1 h2 h3 a0 a1 hk
    obtain ⟨k, rfl⟩ : ∃ q, k = q + 1 := ⟨k - 1, by omega⟩
    have a := cum_succ y m0 (by omega) (by omega)
    have l := len_bd y m0
    simp only [ossuaryref04_Number.l1]
    rw [if_pos (by omega), ref_Length_eq k y m0 (by omega), lenM_eq y m0 h1 (by omega)]
    simp only [Option.bind_some]
    rw [w64 _ (by omega), w64 _ (by omega), ih k m (m0 + 1) (acc + len y m0) (by omega) (by omega) h3 (by omega) (by omega) (by omega)]
    congr 2; omega
theorem ref_Number_l0 (y m d : Int) (hy : y ≤ 10000) (hm : 1 ≤ m ∧ m ≤ 12) (hd : 0 ≤ d ∧ d ≤ 40) (n : Nat) : ∀ (k : Nat) (y0 acc : Int), 1970 ≤ y0 → y0 + n = y → 0 ≤ acc → acc ≤ 100000000 - 366 * n → n + 20 < k →
    ossuaryref04_Number.l0 k y m d acc y0 = some (acc + (dby y - dby y0) + cum y m + d - 1, true) := by
  induction n with
  | zero =>
    intro k y0 acc h1 h2 a0 a1 hk
    obtain rfl : y = y0 := by omega
    obtain ⟨k, rfl⟩ : ∃ q, k = q + 1 := ⟨k - 1, by omega⟩
    simp only [ossuaryref04_Number.l0]
    have c1 : cum y 1 = 0 := by unfold cum; simp
    rw [if_neg (by omega), ref_Number_l1 y d hd (m - 1).toNat k m 1 acc (by omega) (by omega) hm.2 (by omega) (by omega) (by omega), c1]
    congr 2; omega
  | succ n ih =>
    intro k y0 acc h1 h2 a0 a1 hk
    obtain ⟨k, rfl⟩ : ∃ q, k = q + 1 := ⟨k - 1, by omega⟩
    have a := dby_succ y0
    have l := lp_01 y0
    simp only [ossuaryref04_Number.l0]
    rw [if_pos (by omega), ref_days_eq]
    simp only [Option.bind_some]
    rw [w64 _ (by omega), w64 _ (by omega), ih k (y0 + 1) (acc + (365 + lp y0)) (by omega) (by omega) (by omega) (by omega) (by omega)]
    congr 2; omega
/-- Is there such a date, and its day. -/
def numO (y m d : Int) : Int × Bool := if y < 1970 then (0, false) else if 4900 < y then (0, false) else if d < 1 then (0, false) else if lenM y m < d then (0, false) else (num y m d, true)
theorem numO_val (y m d : Int) : (numO y m d = (0, false)) ∨ (1970 ≤ y ∧ y ≤ 4900 ∧ 1 ≤ m ∧ m ≤ 12 ∧ 1 ≤ d ∧ d ≤ len y m ∧ numO y m d = (num y m d, true)) := by
  unfold numO
  by_cases c1 : y < 1970
  · rw [if_pos c1]; exact .inl rfl
  · rw [if_neg c1]
    by_cases c2 : 4900 < y
    · rw [if_pos c2]; exact .inl rfl
    · rw [if_neg c2]
      by_cases c3 : d < 1
      · rw [if_pos c3]; exact .inl rfl
      · rw [if_neg c3]
        by_cases c4 : lenM y m < d
        · rw [if_pos c4]; exact .inl rfl
        · rw [if_neg c4]
          have hm : 1 ≤ m ∧ m ≤ 12 := by
            by_cases h : 1 ≤ m ∧ m ≤ 12
            · exact h
            · unfold lenM at c4; rw [if_neg h] at c4; omega
          rw [lenM_eq y m hm.1 hm.2] at c4
          exact .inr ⟨by omega, by omega, hm.1, hm.2, by omega, by omega, rfl⟩
theorem civil_Number_eq (k : Nat) (y m d : Int) (hk : 2 ≤ k) : civil_Number.f k y m d = some (numO y m d) := by
  unfold civil_Number.f numO
  by_cases c1 : y < 1970
  · rw [if_pos c1, if_pos c1]
  · rw [if_neg c1, if_neg c1]
    by_cases c2 : y > 4900
    · rw [if_pos c2, if_pos c2]
    · rw [if_neg c2, if_neg c2]
      by_cases c3 : d < 1
      · rw [if_pos c3, if_pos c3]
      · rw [if_neg c3, if_neg c3, civil_Length_eq k y m hk]
        simp only [Option.bind_some]
        by_cases c4 : d > lenM y m
        · rw [if_pos c4, if_pos c4]
        · rw [if_neg c4, if_neg c4]
          have hm : 1 ≤ m ∧ m ≤ 12 := by
            by_cases h : 1 ≤ m ∧ m ≤ 12
            · exact h
            · unfold lenM at c4; rw [if_neg h] at c4; omega
          have l := len_bd y m
          rw [lenM_eq y m hm.1 hm.2] at c4
          rw [civil_number_eq y m d (by omega) (by omega) hm.1 hm.2 (by omega) (by omega)]
          rfl
theorem ref_Number_eq (k : Nat) (y m d : Int) (hk : 4000 ≤ k) : ossuaryref04_Number.f k y m d = some (numO y m d) := by
  obtain ⟨k, rfl⟩ : ∃ q, k = q + 1 := ⟨k - 1, by omega⟩
  unfold ossuaryref04_Number.f numO
  by_cases c1 : y < 1970
  · rw [if_pos c1, if_pos c1]; simp [ossuaryref04_Number.j0]
  · rw [if_neg c1, if_neg c1]
    by_cases c2 : y > 4900
    · rw [if_pos c2, if_pos c2]; simp [ossuaryref04_Number.j0]
    · rw [if_neg c2, if_neg c2]
      by_cases c3 : d < 1
      · rw [if_pos c3, if_pos c3]; simp [ossuaryref04_Number.j0]
      · rw [if_neg c3, if_neg c3, ref_Length_eq (k + 1) y m (by omega)]
        simp only [Option.bind_some, ossuaryref04_Number.j0]
        by_cases c4 : d > lenM y m
        · rw [if_pos (by simpa using c4), if_pos c4]
        · rw [if_neg (by simpa using c4), if_neg c4]
          have hm : 1 ≤ m ∧ m ≤ 12 := by
            by_cases h : 1 ≤ m ∧ m ≤ 12
            · exact h
            · unfold lenM at c4; rw [if_neg h] at c4; omega
          have l := len_bd y m
          rw [lenM_eq y m hm.1 hm.2] at c4
          rw [ref_Number_l0 y m d (by omega) hm (by omega) (y - 1970).toNat k 1970 0 (by omega) (by omega) (by omega) (by omega) (by omega), dby_1970]
          unfold num
          congr 2; omega
end Go.Proofs.Ytncmmnbpkeemmaa.Civ
