/- For every two partitions and every hour: each hour has one partition of each tier, the lesser within the greater, and two that meet are one within the other; no condition. -/
import Derived.Test.YtncmmnbpkeemmaaPx12
import Derived.Test.YtncmmnbpkeemmaaSayPartNests
import Derived.Test.YtncmmnbpkeemmaaPrt
namespace Go.Proofs.Ytncmmnbpkeemmaa.Pure
set_option linter.unusedVariables false
set_option linter.unusedSimpArgs false
open Go.RowKit Go.Proofs.Ytncmmnbpkeemmaa.P Go.Proofs.YtncmmnbpkeemmaaW.PrintWords Go.Proofs.YtncmmnbpkeemmaaW.PrintLast Go.Proofs.Ytncmmnbpkeemmaa.Civ Go.Proofs.Ytncmmnbpkeemmaa.Cal

theorem meets_comm (t i u j : Int) : meetsP t i u j ↔ meetsP u j t i := by
  unfold meetsP
  exact ⟨fun h => ⟨h.2.1, h.1, h.2.2.2, h.2.2.1⟩, fun h => ⟨h.2.1, h.1, h.2.2.2, h.2.2.1⟩⟩
theorem span_mono (a b : Int) (h0 : 0 ≤ a) (h : a < b) : spanA (a + 1) ≤ spanA b := by
  have := spanA_lt (a + 1) b (by omega) (by omega)
  omega
/-- Two that meet are one within the other, the lesser tier first. -/
theorem nest (t i u j : Int) (h : meetsP t i u j) (htu : t ≤ u) : withinP t i u j := by
  obtain ⟨r, s, a, b⟩ := h
  refine ⟨r, s, ?_⟩
  rcases right_tier t i r with ⟨rfl, x, y⟩ | ⟨rfl, x, y⟩ | ⟨rfl, x, y, z⟩ <;> rcases right_tier u j s with ⟨rfl, x', y'⟩ | ⟨rfl, x', y'⟩ | ⟨rfl, x', y', z'⟩ <;> unfold lo hi at * <;> simp at a b htu ⊢
  · omega
  · omega
  · omega
  · omega
  · omega
  · rcases Int.lt_trichotomy i j with c | c | c
    · have := span_mono i j x c; omega
    · subst c; omega
    · have := span_mono j i x' c; omega
theorem PartNests : ossuarylaw19_PartNests.Pure := by
  intro a0 a1 b0 b1 h _ _ _ _ _
  refine ⟨5000, ?_⟩
  have yes : ossuarylaw19_PartNests.j1 4999 h true a0 a1 = some true := by
    rw [ossuarylaw19_PartNests.j1, if_pos rfl, alive19 4998 (by omega)]; rfl
  have main : ∀ x : Bool, x = false → ossuarylaw19_PartNests.j0 5000 h x a0 a1 = some true := by
    rintro x rfl
    rw [ossuarylaw19_PartNests.j0, if_neg (by decide)]
    by_cases c0 : h < 0
    · rw [if_pos c0]; exact yes
    · rw [if_neg c0]
      by_cases c1 : h > 16777216
      · rw [decide_eq_true c1]; exact yes
      · rw [decide_eq_false c1, ossuarylaw19_PartNests.j1, if_neg (by decide), part_Of_eq 4998 1 h (by omega), part_Of_eq 4998 2 h (by omega), part_Of_eq 4998 3 h (by omega)]
        simp only [Option.bind_some]
        have e1 : ofO 1 h = (1, h, true) := by unfold ofO; rw [if_pos (by omega)]; rfl
        have e2 : ofO 2 h = (2, h / 24, true) := by unfold ofO; rw [if_pos (by omega)]; rfl
        have e3 : ofO 3 h = (3, monOf (h / 24), true) := by unfold ofO; rw [if_pos (by omega)]; rfl
        have p1 : hasP 1 h h := (has_iff 1 h h (by omega) (by omega) (by omega)).mpr (by rw [e1])
        have p2 : hasP 2 (h / 24) h := (has_iff 2 _ h (by omega) (by omega) (by omega)).mpr (by rw [e2])
        have p3 : hasP 3 (monOf (h / 24)) h := (has_iff 3 _ h (by omega) (by omega) (by omega)).mpr (by rw [e3])
        have m12 : meetsP 1 h 2 (h / 24) := ⟨p1.1, p2.1, by have := p1.2; have := p2.2; omega, by have := p1.2; have := p2.2; omega⟩
        have m23 : meetsP 2 (h / 24) 3 (monOf (h / 24)) := ⟨p2.1, p3.1, by have := p2.2; have := p3.2; omega, by have := p2.2; have := p3.2; omega⟩
        have m13 : meetsP 1 h 3 (monOf (h / 24)) := ⟨p1.1, p3.1, by have := p1.2; have := p3.2; omega, by have := p1.2; have := p3.2; omega⟩
        have w12 := nest _ _ _ _ m12 (by omega)
        have w23 := nest _ _ _ _ m23 (by omega)
        rw [e1, e2, e3]
        simp only [if_true]
        rw [part_Within_eq 4998 _ _ _ _ (by omega), part_Within_eq 4998 _ _ _ _ (by omega), part_Has_eq 4998 1 _ _ (by omega), part_Has_eq 4998 2 _ _ (by omega), part_Has_eq 4998 3 _ _ (by omega), decide_eq_true w12, decide_eq_true w23, decide_eq_true p1, decide_eq_true p2, decide_eq_true p3]
        simp only [Option.bind_some, if_true, Bool.not_true]
        rw [ossuarylaw19_PartNests.j2, if_neg (by decide), part_Has_eq 4997 a0 a1 h (by omega)]
        simp only [Option.bind_some]
        have fin : ossuarylaw19_PartNests.j3 4997 false 1 h 3 (monOf (h / 24)) = some true := by
          rw [ossuarylaw19_PartNests.j3, if_neg (by decide), part_Meets_eq 4996 _ _ _ _ (by omega), decide_eq_true m13, alive19 4996 (by omega)]; rfl
        by_cases c : hasP a0 a1 h
        · rw [if_pos (decide_eq_true c)]
          have ht : 1 ≤ a0 ∧ a0 ≤ 3 := by rcases right_tier a0 a1 c.1 with x | x | x <;> omega
          have hi := (has_iff a0 a1 h (by omega) (by omega) ht).mp c
          have ht' : a0 = 1 ∨ a0 = 2 ∨ a0 = 3 := by omega
          rcases ht' with rfl | rfl | rfl
          · rw [e1] at hi
            simp only at hi
            subst hi
            simpa using fin
          · rw [e2] at hi
            simp only at hi
            subst hi
            simpa using fin
          · rw [e3] at hi
            simp only at hi
            subst hi
            simpa using fin
        · rw [if_neg (by simpa using c)]
          exact fin
  unfold ossuarylaw19_PartNests.f
  rw [part_Meets_eq 5000 a0 a1 b0 b1 (by omega), part_Meets_eq 5000 b0 b1 a0 a1 (by omega), part_Within_eq 5000 a0 a1 b0 b1 (by omega), part_Within_eq 5000 b0 b1 a0 a1 (by omega)]
  simp only [Option.bind_some]
  have hc : (decide (meetsP a0 a1 b0 b1) != decide (meetsP b0 b1 a0 a1)) = false := by
    rw [bne_eq_false_iff_eq]
    exact decide_eq_decide.mpr (meets_comm a0 a1 b0 b1)
  rw [hc]
  by_cases m : meetsP a0 a1 b0 b1
  · rw [if_pos (decide_eq_true m)]
    rcases Int.le_total a0 b0 with c | c
    · rw [if_pos (decide_eq_true (nest _ _ _ _ m c))]
      exact main _ rfl
    · rw [if_pos (show decide (withinP b0 b1 a0 a1) = true from decide_eq_true (nest _ _ _ _ ((meets_comm _ _ _ _).mp m) c))]
      split
      · exact main _ rfl
      · exact main _ rfl
  · rw [if_neg (by simpa using m)]
    exact main _ rfl

end Go.Proofs.Ytncmmnbpkeemmaa.Pure
