import Derived.Test.YtncmmnbpkeemmaaPx13
import Derived.Test.YtncmmnbpkeemmaaMon
namespace Go.Proofs.Ytncmmnbpkeemmaa.Civ
set_option linter.unusedVariables false
set_option linter.unusedSimpArgs false
open Go.RowKit Go.Proofs.Ytncmmnbpkeemmaa.P Go.Proofs.YtncmmnbpkeemmaaW.PrintWords Go.Proofs.YtncmmnbpkeemmaaW.PrintLast Go.Proofs.YtncmmnbpkeemmaaW.PrintMore Go.Proofs.Ytncmmnbpkeemmaa.Cal

theorem byt_bd (s : ByteArray) (i : Nat) : 0 ≤ byt s i ∧ byt s i ≤ 255 := by
  unfold byt
  have := (s.data.toList.getD i 0).toNat_lt
  omega
/-- Is there a digit, or the form's letter, at i? -/
def okAt (s : ByteArray) (i : Nat) : Prop := if frm i = 48 then 48 ≤ byt s i ∧ byt s i ≤ 57 else byt s i = frm i
instance (s : ByteArray) (i : Nat) : Decidable (okAt s i) := by unfold okAt; infer_instance
def dg (s : ByteArray) (i : Nat) : Int := byt s i - 48
theorem par_bad (s : ByteArray) (d i a : Nat) (n : List Int) (h : ¬ okAt s i) : parL s (d + 1) i a n = some none := by
  unfold okAt at h
  rw [parL]
  by_cases c : frm i = 48
  · rw [if_pos c] at h ⊢
    by_cases c1 : byt s i < 48
    · rw [if_pos c1]
    · rw [if_neg c1, if_pos (by omega)]
  · rw [if_neg c] at h ⊢
    rw [if_neg h]
theorem par_dig (s : ByteArray) (d i a : Nat) (n : List Int) (h : okAt s i) (c : frm i = 48) (ha : a < 4) : parL s (d + 1) i a n = parL s d (i + 1) a (n.set a (wrap64 (wrap64 (n.getD a 0 * 10) + dg s i))) := by
  unfold okAt at h
  rw [if_pos c] at h
  rw [parL, if_pos c, if_neg (by omega), if_neg (by omega), if_pos ha]
  rfl
theorem par_sep (s : ByteArray) (d i a : Nat) (n : List Int) (h : okAt s i) (c : frm i ≠ 48) : parL s (d + 1) i a n = parL s d (i + 1) (a + 1) n := by
  unfold okAt at h
  rw [if_neg c] at h
  rw [parL, if_neg c, if_pos h]
def allOk (s : ByteArray) : Prop := ∀ i, i < 13 → okAt s i
theorem dg_bd (s : ByteArray) (i : Nat) (h : okAt s i) (c : frm i = 48) : 0 ≤ dg s i ∧ dg s i ≤ 9 := by
  unfold okAt at h
  rw [if_pos c] at h
  unfold dg
  omega
def nY (s : ByteArray) : Int := 1000 * dg s 0 + 100 * dg s 1 + 10 * dg s 2 + dg s 3
def nM (s : ByteArray) : Int := 10 * dg s 5 + dg s 6
def nD (s : ByteArray) : Int := 10 * dg s 8 + dg s 9
def nH (s : ByteArray) : Int := 10 * dg s 11 + dg s 12
theorem digs (s : ByteArray) (h : allOk s) : (0 ≤ dg s 0 ∧ dg s 0 ≤ 9) ∧ (0 ≤ dg s 1 ∧ dg s 1 ≤ 9) ∧ (0 ≤ dg s 2 ∧ dg s 2 ≤ 9) ∧ (0 ≤ dg s 3 ∧ dg s 3 ≤ 9) ∧ (0 ≤ dg s 5 ∧ dg s 5 ≤ 9) ∧ (0 ≤ dg s 6 ∧ dg s 6 ≤ 9) ∧ (0 ≤ dg s 8 ∧ dg s 8 ≤ 9) ∧ (0 ≤ dg s 9 ∧ dg s 9 ≤ 9) ∧ (0 ≤ dg s 11 ∧ dg s 11 ≤ 9) ∧ (0 ≤ dg s 12 ∧ dg s 12 ≤ 9) :=
  ⟨dg_bd s 0 (h 0 (by omega)) rfl, dg_bd s 1 (h 1 (by omega)) rfl, dg_bd s 2 (h 2 (by omega)) rfl, dg_bd s 3 (h 3 (by omega)) rfl, dg_bd s 5 (h 5 (by omega)) rfl, dg_bd s 6 (h 6 (by omega)) rfl, dg_bd s 8 (h 8 (by omega)) rfl, dg_bd s 9 (h 9 (by omega)) rfl, dg_bd s 11 (h 11 (by omega)) rfl, dg_bd s 12 (h 12 (by omega)) rfl⟩
theorem par_all (s : ByteArray) (h : allOk s) : parL s 13 0 0 [0, 0, 0, 0] = some (some [nY s, nM s, nD s, nH s]) := by
  obtain ⟨⟨a0, b0⟩, ⟨a1, b1⟩, ⟨a2, b2⟩, ⟨a3, b3⟩, ⟨a5, b5⟩, ⟨a6, b6⟩, ⟨a8, b8⟩, ⟨a9, b9⟩, ⟨a11, b11⟩, ⟨a12, b12⟩⟩ := digs s h
  rw [par_dig s 12 0 0 _ (h 0 (by omega)) rfl (by omega), par_dig s 11 1 0 _ (h 1 (by omega)) rfl (by omega), par_dig s 10 2 0 _ (h 2 (by omega)) rfl (by omega), par_dig s 9 3 0 _ (h 3 (by omega)) rfl (by omega), par_sep s 8 4 0 _ (h 4 (by omega)) (by decide),
    par_dig s 7 5 1 _ (h 5 (by omega)) rfl (by omega), par_dig s 6 6 1 _ (h 6 (by omega)) rfl (by omega), par_sep s 5 7 1 _ (h 7 (by omega)) (by decide),
    par_dig s 4 8 2 _ (h 8 (by omega)) rfl (by omega), par_dig s 3 9 2 _ (h 9 (by omega)) rfl (by omega), par_sep s 2 10 2 _ (h 10 (by omega)) (by decide),
    par_dig s 1 11 3 _ (h 11 (by omega)) rfl (by omega), par_dig s 0 12 3 _ (h 12 (by omega)) rfl (by omega), parL]
  simp only [List.set, List.getD, List.getElem?_cons_zero, List.getElem?_cons_succ, Option.getD_some]
  simp (disch := omega) only [w64]
  unfold nY nM nD nH
  congr 3
  · omega
  congr 1
  · omega
  congr 1
  · omega
  congr 1
  omega
theorem par_none (s : ByteArray) (h : ¬ allOk s) : parL s 13 0 0 [0, 0, 0, 0] = some none := by
  by_cases h0 : okAt s 0
  · rw [par_dig s 12 0 0 _ h0 rfl (by omega)]
    by_cases h1 : okAt s 1
    · rw [par_dig s 11 1 0 _ h1 rfl (by omega)]
      by_cases h2 : okAt s 2
      · rw [par_dig s 10 2 0 _ h2 rfl (by omega)]
        by_cases h3 : okAt s 3
        · rw [par_dig s 9 3 0 _ h3 rfl (by omega)]
          by_cases h4 : okAt s 4
          · rw [par_sep s 8 4 0 _ h4 (by decide)]
            by_cases h5 : okAt s 5
            · rw [par_dig s 7 5 1 _ h5 rfl (by omega)]
              by_cases h6 : okAt s 6
              · rw [par_dig s 6 6 1 _ h6 rfl (by omega)]
                by_cases h7 : okAt s 7
                · rw [par_sep s 5 7 1 _ h7 (by decide)]
                  by_cases h8 : okAt s 8
                  · rw [par_dig s 4 8 2 _ h8 rfl (by omega)]
                    by_cases h9 : okAt s 9
                    · rw [par_dig s 3 9 2 _ h9 rfl (by omega)]
                      by_cases h10 : okAt s 10
                      · rw [par_sep s 2 10 2 _ h10 (by decide)]
                        by_cases h11 : okAt s 11
                        · rw [par_dig s 1 11 3 _ h11 rfl (by omega)]
                          by_cases h12 : okAt s 12
                          · exfalso
                            apply h
                            intro i hi
                            match i, hi with
                            | 0, _ => exact h0
                            | 1, _ => exact h1
                            | 2, _ => exact h2
                            | 3, _ => exact h3
                            | 4, _ => exact h4
                            | 5, _ => exact h5
                            | 6, _ => exact h6
                            | 7, _ => exact h7
                            | 8, _ => exact h8
                            | 9, _ => exact h9
                            | 10, _ => exact h10
                            | 11, _ => exact h11
                            | 12, _ => exact h12
                          · exact par_bad s 0 12 3 _ h12
                        · exact par_bad s 1 11 3 _ h11
                      · exact par_bad s 2 10 2 _ h10
                    · exact par_bad s 3 9 2 _ h9
                  · exact par_bad s 4 8 2 _ h8
                · exact par_bad s 5 7 1 _ h7
              · exact par_bad s 6 6 1 _ h6
            · exact par_bad s 7 5 1 _ h5
          · exact par_bad s 8 4 0 _ h4
        · exact par_bad s 9 3 0 _ h3
      · exact par_bad s 10 2 0 _ h2
    · exact par_bad s 11 1 0 _ h1
  · exact par_bad s 12 0 0 _ h0
end Go.Proofs.Ytncmmnbpkeemmaa.Civ
