import Derived.Test.YtncmmnbpkeemmaaPx2
import Derived.Test.YtncmmnbpkeemmaaCiv
namespace Go.Proofs.Ytncmmnbpkeemmaa.Civ
set_option linter.unusedVariables false
set_option linter.unusedSimpArgs false
open Go.RowKit Go.Proofs.Ytncmmnbpkeemmaa.P Go.Proofs.YtncmmnbpkeemmaaW.PrintWords Go.Proofs.YtncmmnbpkeemmaaW.PrintLast Go.Proofs.YtncmmnbpkeemmaaW.PrintMore Go.Proofs.Ytncmmnbpkeemmaa.Cal

def rowL (y m d h : Int) : List Int := [48 + y / 1000, 48 + y / 100 % 10, 48 + y / 10 % 10, 48 + y % 10, 45, 48 + m / 10, 48 + m % 10, 45, 48 + d / 10, 48 + d % 10, 84, 48 + h / 10, 48 + h % 10]
theorem put4' (l : List Int) (y : Int) (h1 : 1000 ≤ y) (h2 : y ≤ 9999) (hl : l.length = 13) : putD l y 4 = some ((((l.set 3 (48 + y % 10)).set 2 (48 + y / 10 % 10)).set 1 (48 + y / 100 % 10)).set 0 (48 + y / 1000)) := by
  have e2 : y / 10 / 10 = y / 100 := by omega
  have e4 : y / 100 / 10 % 10 = y / 1000 := by omega
  simp only [putD, e2, List.length_set, hl]
  rw [if_neg (by omega), if_pos (by omega), if_neg (by omega), if_pos (by omega), if_neg (by omega), if_pos (by omega), if_neg (by omega), if_pos (by omega), if_pos (by omega), e4]
theorem put4 (y : Int) (h1 : 1000 ≤ y) (h2 : y ≤ 9999) : putD textRow y 4 = some [48 + y / 1000, 48 + y / 100 % 10, 48 + y / 10 % 10, 48 + y % 10, 45, 48, 48, 45, 48, 48, 84, 48, 48] :=
  put4' textRow y h1 h2 rfl
theorem put2 (l : List Int) (n : Int) (e : Nat) (h1 : 0 ≤ n) (h2 : n ≤ 99) (hl : e + 1 < l.length) (hz : l.getD e 0 = 48 ∧ l.getD (e + 1) 0 = 48) : putD l n (e + 2) = some ((l.set (e + 1) (48 + n % 10)).set e (48 + n / 10)) := by
  have hs : ∀ (l : List Int) (i : Nat), i < l.length → l.getD i 0 = 48 → l.set i 48 = l := by
    intro l i hi h
    apply List.ext_getElem (by simp)
    intro j h1 h2
    rw [List.getElem_set]
    split
    · rename_i e; subst e; simpa [List.getD, hi] using h.symm
    · rfl
  by_cases c0 : n ≤ 0
  · obtain rfl : n = 0 := by omega
    simp only [putD]
    rw [if_pos (by omega)]
    simp
    rw [hs l (e + 1) hl hz.2, hs l e (by omega) hz.1]
  · by_cases c1 : n ≤ 9
    · simp only [putD]
      rw [if_neg c0, if_pos (by omega), if_pos (by omega)]
      have e0 : n / 10 = 0 := by omega
      rw [e0]
      congr 1
      have : 48 + (0 : Int) = 48 := by omega
      rw [this, hs _ e (by simp; omega) (by
        rw [List.getD_eq_getElem?_getD, List.getElem?_set]
        simp
        have := hz.1
        rwa [List.getD_eq_getElem?_getD] at this)]
    · have e4 : n / 10 % 10 = n / 10 := by omega
      simp only [putD]
      cases e with
      | zero =>
        simp only [putD]
        rw [if_neg c0, if_pos (by omega), if_neg (by omega), if_pos (by simp; omega), if_pos (by omega), e4]
      | succ e =>
        simp only [putD]
        rw [if_neg c0, if_pos (by omega), if_neg (by omega), if_pos (by simp; omega), if_pos (by omega), e4]
theorem row_eq (y m d h : Int) (hy : 1000 ≤ y ∧ y ≤ 9999) (hm : 0 ≤ m ∧ m ≤ 99) (hd : 0 ≤ d ∧ d ≤ 99) (hh : 0 ≤ h ∧ h ≤ 99) :
    ((putD textRow y 4).bind fun l1 => (putD l1 m 7).bind fun l2 => (putD l2 d 10).bind fun l3 => (putD l3 h 13).bind fun l4 => some (strOfNums l4)) = some (strOfNums (rowL y m d h)) := by
  rw [put4 y hy.1 hy.2]
  simp only [Option.bind_some]
  rw [put2 _ m 5 hm.1 hm.2 (by simp) (by simp)]
  simp only [Option.bind_some]
  rw [put2 _ d 8 hd.1 hd.2 (by simp) (by simp)]
  simp only [Option.bind_some]
  rw [put2 _ h 11 hh.1 hh.2 (by simp) (by simp)]
  simp only [Option.bind_some]
  rfl
theorem civil_DayOf_eq (h : Int) (h0 : 0 ≤ h) (h1 : h ≤ 90000000) : civil_DayOf.f h = some (h / 24) := by
  unfold civil_DayOf.f
  rw [td _ _ h0, w64 _ (by omega)]
theorem date_bd (day : Int) (h0 : 0 ≤ day) (h1 : day ≤ 1100000) : dateY day ≤ 4990 := by
  have h := date_ok day h0 (by omega)
  have a := num_year (dateY day) (dateM day) (dateD day) ⟨h.2.2.1, h.2.2.2.1⟩ ⟨h.2.2.2.2.1, h.2.2.2.2.2.1⟩
  rw [h.2.2.2.2.2.2] at a
  have b := a.1
  unfold dby at b
  omega
theorem civil_Text_eq (hour : Int) (h0 : 0 ≤ hour) (h1 : hour ≤ 17000000) : civil_Text.f hour = some (strOfNums (rowL (dateY (hour / 24)) (dateM (hour / 24)) (dateD (hour / 24)) (hour % 24))) := by
  unfold civil_Text.f
  rw [civil_DayOf_eq hour h0 (by omega)]
  simp only [Option.bind_some]
  rw [civil_Date_eq _ (by omega) (by omega)]
  simp only [Option.bind_some]
  have h := date_ok (hour / 24) (by omega) (by omega)
  have b := date_bd (hour / 24) (by omega) (by omega)
  have l := len_bd (dateY (hour / 24)) (dateM (hour / 24))
  rw [if_pos (by omega)]
  exact row_eq _ _ _ _ (by omega) (by omega) (by omega) (by omega)
theorem alive04 : ossuarylaw04_alive.f = some true := by
  unfold ossuarylaw04_alive.f
  rw [civil_Date_eq 59 (by omega) (by omega)]
  simp only [Option.bind_some]
  rw [if_pos (by decide), if_pos (by decide), if_pos (by decide), civil_Text_eq 25 (by omega) (by omega)]
  simp only [Option.bind_some]
  rw [ByteArray.toList_eq]
  rfl
end Go.Proofs.Ytncmmnbpkeemmaa.Civ
