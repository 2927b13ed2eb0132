import Derived.Test.YtncmmnbpkeemmaaPx5
import Derived.Test.YtncmmnbpkeemmaaPx6
import Derived.Test.YtncmmnbpkeemmaaRef
namespace Go.Proofs.Ytncmmnbpkeemmaa.Civ
set_option linter.unusedVariables false
set_option linter.unusedSimpArgs false
open Go.RowKit Go.Proofs.Ytncmmnbpkeemmaa.P Go.Proofs.YtncmmnbpkeemmaaW.PrintWords Go.Proofs.YtncmmnbpkeemmaaW.PrintLast Go.Proofs.YtncmmnbpkeemmaaW.PrintMore Go.Proofs.Ytncmmnbpkeemmaa.Cal

/-- The first day of a month, counted from 1970 on. -/
def spanA (m : Int) : Int := num (1970 + m / 12) (m % 12 + 1) 1
theorem spanA_succ (m : Int) (h0 : 0 ≤ m) : spanA (m + 1) = spanA m + len (1970 + m / 12) (m % 12 + 1) := by
  unfold spanA num
  by_cases c : m % 12 = 11
  · have e1 : (m + 1) / 12 = m / 12 + 1 := by omega
    have e2 : (m + 1) % 12 = 0 := by omega
    have a := cum_succ (1970 + m / 12) 12 (by omega) (by omega)
    have b := cum_13 (1970 + m / 12)
    have d := dby_succ (1970 + m / 12)
    have c1 : ∀ y, cum y 1 = 0 := fun y => by unfold cum; simp
    rw [e1, e2, c]
    rw [show (0 : Int) + 1 = 1 from rfl, c1, show (11 : Int) + 1 = 12 from rfl, show 1970 + (m / 12 + 1) = 1970 + m / 12 + 1 from by omega]
    rw [show (12 : Int) + 1 = 13 from rfl] at a
    omega
  · have e1 : (m + 1) / 12 = m / 12 := by omega
    have e2 : (m + 1) % 12 = m % 12 + 1 := by omega
    have a := cum_succ (1970 + m / 12) (m % 12 + 1) (by omega) (by omega)
    rw [e1, e2]
    omega
theorem spanA_bd (m : Int) (h0 : 0 ≤ m) (h1 : m ≤ 36000) : 0 ≤ spanA m ∧ spanA m ≤ 1200000 := by
  unfold spanA
  have l := len_bd (1970 + m / 12) (m % 12 + 1)
  have a := num_year (1970 + m / 12) (m % 12 + 1) 1 (by omega) (by omega)
  have b := dby_1970
  have c := dby_mono 1970 (1970 + m / 12) (by omega)
  have d := dby_succ (1970 + m / 12)
  have e := lp_01 (1970 + m / 12)
  omega
theorem span1_eq (m : Int) (h0 : 0 ≤ m) (h1 : m ≤ 36000) : civil_Span_1.f m = some (spanA m) := by
  unfold civil_Span_1.f spanA
  rw [td _ _ h0, tm _ _ h0, w64 (m / 12) (by omega), w64 (1970 + m / 12) (by omega), w64 (m % 12 + 1) (by omega)]
  exact civil_number_eq _ _ _ (by omega) (by omega) (by omega) (by omega) (by omega) (by omega)
theorem civil_Span_eq (m : Int) (h0 : 0 ≤ m) (h1 : m ≤ 35900) : civil_Span.f m = some (spanA m, spanA (m + 1)) := by
  unfold civil_Span.f
  rw [w64 (m + 1) (by omega), span1_eq m h0 (by omega), span1_eq (m + 1) (by omega) (by omega)]
  rfl
theorem ref_Span_eq (k : Nat) (m : Int) (h0 : 0 ≤ m) (h1 : m ≤ 35100) (hk : 4000 ≤ k) : ossuaryref04_Span.f k m = some (spanA m, spanA (m + 1)) := by
  unfold ossuaryref04_Span.f
  rw [td _ _ h0, tm _ _ h0, w64 (m / 12) (by omega), w64 (1970 + m / 12) (by omega), w64 (m % 12 + 1) (by omega)]
  rw [ref_Number_eq k _ _ _ hk, ref_Length_eq k _ _ (by omega)]
  simp only [Option.bind_some]
  rw [lenM_eq _ _ (by omega) (by omega)]
  have l := len_bd (1970 + m / 12) (m % 12 + 1)
  rcases numO_val (1970 + m / 12) (m % 12 + 1) 1 with h | h
  · exfalso
    unfold numO at h
    rw [if_neg (by omega), if_neg (by omega), if_neg (by omega), lenM_eq _ _ (by omega) (by omega), if_neg (by omega)] at h
    simp at h
  · rw [h.2.2.2.2.2.2]
    have a := spanA_succ m h0
    have b := spanA_bd m h0 (by omega)
    have e : num (1970 + m / 12) (m % 12 + 1) 1 = spanA m := rfl
    simp only [e]
    rw [w64 _ (by omega), a]
/-- The month of a day, counted from 1970 on. -/
def monOf (day : Int) : Int := (dateY day - 1970) * 12 + dateM day - 1
theorem monOf_bd (day : Int) (h0 : 0 ≤ day) (h1 : day ≤ 1100000) : 0 ≤ monOf day ∧ monOf day ≤ 36400 := by
  have h := date_ok day h0 (by omega)
  have b := date_bd day h0 h1
  unfold monOf
  omega
theorem civil_MonthOf_eq (day : Int) (h0 : 0 ≤ day) (h1 : day ≤ 1100000) : civil_MonthOf.f day = some (monOf day) := by
  unfold civil_MonthOf.f monOf
  have h := date_ok day h0 (by omega)
  have b := date_bd day h0 h1
  rw [civil_Date_eq day h0 (by omega)]
  simp only [Option.bind_some]
  rw [w64 (dateY day - 1970) (by omega), w64 ((dateY day - 1970) * 12) (by omega), w64 (dateM day - 1) (by omega), w64 _ (by omega)]
  congr 1; omega
theorem ref_MonthOf_eq (k : Nat) (day : Int) (h0 : 0 ≤ day) (h1 : day ≤ 1100000) (hk : 3060 < k) : ossuaryref04_MonthOf.f k day = some (monOf day) := by
  unfold ossuaryref04_MonthOf.f monOf
  have h := date_ok day h0 (by omega)
  have b := date_bd day h0 h1
  rw [ref_Date_eq k day h0 h1 hk]
  simp only [Option.bind_some]
  rw [w64 (dateY day - 1970) (by omega), w64 ((dateY day - 1970) * 12) (by omega), w64 ((dateY day - 1970) * 12 + dateM day) (by omega), w64 _ (by omega)]
/-- A day lies in its month. -/
theorem monOf_in (day : Int) (h0 : 0 ≤ day) (h1 : day ≤ 1100000) : spanA (monOf day) ≤ day ∧ day < spanA (monOf day + 1) := by
  have h := date_ok day h0 (by omega)
  have b := monOf_bd day h0 h1
  have e1 : monOf day / 12 = dateY day - 1970 := by unfold monOf at *; omega
  have e2 : monOf day % 12 = dateM day - 1 := by unfold monOf at *; omega
  rw [spanA_succ _ b.1]
  unfold spanA
  rw [e1, e2, show 1970 + (dateY day - 1970) = dateY day from by omega, show dateM day - 1 + 1 = dateM day from by omega]
  have n := h.2.2.2.2.2.2
  unfold num at *
  omega
theorem spanA_mono (a : Int) (n : Nat) (h0 : 0 ≤ a) : spanA a + 28 * n ≤ spanA (a + n) := by
  induction n with
  | zero => simp
  | succ n ih =>
    have s := spanA_succ (a + n) (by omega)
    have l := len_bd (1970 + (a + n) / 12) ((a + n) % 12 + 1)
    rw [show a + ((n + 1 : Nat) : Int) = a + n + 1 from by omega]
    omega
theorem spanA_lt (a b : Int) (h0 : 0 ≤ a) (h : a ≤ b) : spanA a + 28 * (b - a) ≤ spanA b := by
  have := spanA_mono a (b - a).toNat h0
  rw [show a + ((b - a).toNat : Int) = b from by omega] at this
  omega
/-- The only month in which a day lies. -/
theorem monOf_unique (day m : Int) (h0 : 0 ≤ day) (h1 : day ≤ 1100000) (hm : 0 ≤ m) (ha : spanA m ≤ day) (hb : day < spanA (m + 1)) : m = monOf day := by
  have b := monOf_bd day h0 h1
  have i := monOf_in day h0 h1
  rcases Int.lt_trichotomy m (monOf day) with c | c | c
  · have := spanA_lt (m + 1) (monOf day) (by omega) (by omega); omega
  · exact c
  · have := spanA_lt (monOf day + 1) m (by omega) (by omega); omega
end Go.Proofs.Ytncmmnbpkeemmaa.Civ
