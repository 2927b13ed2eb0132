import Derived.Test.YtncmmnbpkeemmaaPx21
import Derived.Test.YtncmmnbpkeemmaaPx22
import Derived.Test.YtncmmnbpkeemmaaPx23
import Derived.Test.YtncmmnbpkeemmaaPrt
namespace Go.Proofs.Ytncmmnbpkeemmaa.Civ
set_option linter.unusedVariables false
set_option linter.unusedSimpArgs false
open Go.RowKit Go.Proofs.Ytncmmnbpkeemmaa.P Go.Proofs.YtncmmnbpkeemmaaW.PrintWords Go.Proofs.YtncmmnbpkeemmaaW.PrintLast Go.Proofs.YtncmmnbpkeemmaaW.PrintMore Go.Proofs.Ytncmmnbpkeemmaa.Cal

/-- A policy that is right. -/
def polP (a0 a1 a2 a3 a4 a5 a6 a7 a8 : Int) : Prop := (1 ≤ a0 ∧ a0 ≤ 1048576) ∧ (0 ≤ a1 ∧ a1 ≤ 1048576) ∧ (0 ≤ a2 ∧ a2 ≤ 1048576) ∧ (0 ≤ a3 ∧ a3 ≤ 1048576) ∧ (0 ≤ a4 ∧ a4 ≤ 1048576) ∧ (1 ≤ a5 ∧ a5 ≤ 1048576) ∧ (1 ≤ a6 ∧ a6 ≤ 1048576) ∧ (1 ≤ a7 ∧ a7 ≤ 64) ∧ (100 ≤ a8 ∧ a8 ≤ 1048576)
instance (a0 a1 a2 a3 a4 a5 a6 a7 a8 : Int) : Decidable (polP a0 a1 a2 a3 a4 a5 a6 a7 a8) := by unfold polP; infer_instance
theorem chk_step (l : List Int) (d i : Nat) (x : Int) (hx : l.getD i 0 = x) : chkL l (d + 1) i = if loL i ≤ x ∧ x ≤ hiL i then chkL l d (i + 1) else 2 := by
  rw [chkL, hx]
  by_cases c : x < loL i
  · rw [if_pos c, if_neg (by omega)]
  · rw [if_neg c]
    by_cases d : hiL i < x
    · rw [if_pos d, if_neg (by omega)]
    · rw [if_neg d, if_pos (by omega)]
theorem policy_Check_eq (a0 a1 a2 a3 a4 a5 a6 a7 a8 : Int) : policy_Check.f a0 a1 a2 a3 a4 a5 a6 a7 a8 = some (if polP a0 a1 a2 a3 a4 a5 a6 a7 a8 then 0 else 2) := by
  unfold policy_Check.f
  congr 1
  rw [chk_step _ 8 0 a0 rfl, chk_step _ 7 1 a1 rfl, chk_step _ 6 2 a2 rfl, chk_step _ 5 3 a3 rfl, chk_step _ 4 4 a4 rfl, chk_step _ 3 5 a5 rfl, chk_step _ 2 6 a6 rfl, chk_step _ 1 7 a7 rfl, chk_step _ 0 8 a8 rfl]
  have e0 : loL 0 = 1 ∧ hiL 0 = 1048576 := ⟨rfl, rfl⟩
  have e1 : loL 1 = 0 ∧ hiL 1 = 1048576 := ⟨rfl, rfl⟩
  have e2 : loL 2 = 0 ∧ hiL 2 = 1048576 := ⟨rfl, rfl⟩
  have e3 : loL 3 = 0 ∧ hiL 3 = 1048576 := ⟨rfl, rfl⟩
  have e4 : loL 4 = 0 ∧ hiL 4 = 1048576 := ⟨rfl, rfl⟩
  have e5 : loL 5 = 1 ∧ hiL 5 = 1048576 := ⟨rfl, rfl⟩
  have e6 : loL 6 = 1 ∧ hiL 6 = 1048576 := ⟨rfl, rfl⟩
  have e7 : loL 7 = 1 ∧ hiL 7 = 64 := ⟨rfl, rfl⟩
  have e8 : loL 8 = 100 ∧ hiL 8 = 1048576 := ⟨rfl, rfl⟩
  rw [e0.1, e0.2, e1.1, e1.2, e2.1, e2.2, e3.1, e3.2, e4.1, e4.2, e5.1, e5.2, e6.1, e6.2, e7.1, e7.2, e8.1, e8.2]
  by_cases h : polP a0 a1 a2 a3 a4 a5 a6 a7 a8
  · rw [if_pos h]
    obtain ⟨h0, h1, h2, h3, h4, h5, h6, h7, h8⟩ := h
    rw [if_pos h0, if_pos h1, if_pos h2, if_pos h3, if_pos h4, if_pos h5, if_pos h6, if_pos h7, if_pos h8]; rfl
  · rw [if_neg h]
    split
    · split
      · split
        · split
          · split
            · split
              · split
                · split
                  · split
                    · rename_i h0 h1 h2 h3 h4 h5 h6 h7 h8
                      exact absurd ⟨h0, h1, h2, h3, h4, h5, h6, h7, h8⟩ h
                    · rfl
                  · rfl
                · rfl
              · rfl
            · rfl
          · rfl
        · rfl
      · rfl
    · rfl
theorem in_eq (x a b : Int) : ossuaryref18_in.f x a b = some (decide (a ≤ x ∧ x ≤ b)) := by
  unfold ossuaryref18_in.f
  by_cases c : x ≥ a
  · rw [if_pos c]; congr 1; exact decide_eq_decide.mpr ⟨fun h => ⟨c, h⟩, fun h => h.2⟩
  · rw [if_neg c, decide_eq_false (fun h => c h.1)]
theorem ref_Check_eq (k : Nat) (a0 a1 a2 a3 a4 a5 a6 a7 a8 : Int) (hk : 1 ≤ k) : ossuaryref18_Check.f k a0 a1 a2 a3 a4 a5 a6 a7 a8 = some (if polP a0 a1 a2 a3 a4 a5 a6 a7 a8 then 0 else 2) := by
  obtain ⟨k, rfl⟩ : ∃ q, k = q + 1 := ⟨k - 1, by omega⟩
  unfold ossuaryref18_Check.f
  have no : ¬ polP a0 a1 a2 a3 a4 a5 a6 a7 a8 → ossuaryref18_Check.j0 (k + 1) true a0 a1 a2 a3 a4 a5 a6 a7 a8 = some (if polP a0 a1 a2 a3 a4 a5 a6 a7 a8 then 0 else 2) := by
    intro h; rw [if_neg h, ossuaryref18_Check.j0, if_pos rfl]
  rw [in_eq, in_eq, in_eq, in_eq, in_eq]
  simp only [Option.bind_some]
  by_cases h0 : 1 ≤ a0 ∧ a0 ≤ 1048576
  · rw [if_pos (decide_eq_true h0)]
    by_cases h1 : 0 ≤ a1 ∧ a1 ≤ 1048576
    · rw [if_pos (decide_eq_true h1)]
      by_cases h2 : 0 ≤ a2 ∧ a2 ≤ 1048576
      · rw [if_pos (decide_eq_true h2)]
        by_cases h3 : 0 ≤ a3 ∧ a3 ≤ 1048576
        · rw [if_pos (decide_eq_true h3)]
          by_cases h4 : 0 ≤ a4 ∧ a4 ≤ 1048576
          · rw [decide_eq_true h4, ossuaryref18_Check.j0, Bool.not_true, if_neg (by decide), in_eq, in_eq, in_eq, in_eq]
            simp only [Option.bind_some]
            by_cases h5 : 1 ≤ a5 ∧ a5 ≤ 1048576
            · rw [if_pos (decide_eq_true h5)]
              by_cases h6 : 1 ≤ a6 ∧ a6 ≤ 1048576
              · rw [if_pos (decide_eq_true h6)]
                by_cases h7 : 1 ≤ a7 ∧ a7 ≤ 64
                · rw [if_pos (decide_eq_true h7)]
                  by_cases h8 : 100 ≤ a8 ∧ a8 ≤ 1048576
                  · rw [if_pos (decide_eq_true h8), if_pos (show polP a0 a1 a2 a3 a4 a5 a6 a7 a8 from ⟨h0, h1, h2, h3, h4, h5, h6, h7, h8⟩)]
                  · rw [if_neg (by simpa using h8), if_neg (show ¬ polP a0 a1 a2 a3 a4 a5 a6 a7 a8 from fun h => h8 h.2.2.2.2.2.2.2.2)]
                · rw [if_neg (by simpa using h7), if_neg (show ¬ polP a0 a1 a2 a3 a4 a5 a6 a7 a8 from fun h => h7 h.2.2.2.2.2.2.2.1)]
              · rw [if_neg (by simpa using h6), if_neg (show ¬ polP a0 a1 a2 a3 a4 a5 a6 a7 a8 from fun h => h6 h.2.2.2.2.2.2.1)]
            · rw [if_neg (by simpa using h5), if_neg (show ¬ polP a0 a1 a2 a3 a4 a5 a6 a7 a8 from fun h => h5 h.2.2.2.2.2.1)]
          · rw [decide_eq_false h4]; exact no fun h => h4 h.2.2.2.2.1
        · rw [if_neg (by simpa using h3)]; exact no fun h => h3 h.2.2.2.1
      · rw [if_neg (by simpa using h2)]; exact no fun h => h2 h.2.2.1
    · rw [if_neg (by simpa using h1)]; exact no fun h => h1 h.2.1
  · rw [if_neg (by simpa using h0)]; exact no fun h => h0 h.1
def lagO (a1 a2 a3 t : Int) : Int × Bool := if t = 1 then (a1, true) else if t = 2 then (a2, true) else if t = 3 then (a3, true) else (0, false)
theorem policy_Lag_eq (a0 a1 a2 a3 a4 a5 a6 a7 a8 t : Int) : policy_Lag.f a0 a1 a2 a3 a4 a5 a6 a7 a8 t = some (lagO a1 a2 a3 t) := rfl
theorem ref_Lag_eq (a0 a1 a2 a3 a4 a5 a6 a7 a8 t : Int) : ossuaryref18_Lag.f a0 a1 a2 a3 a4 a5 a6 a7 a8 t = some (lagO a1 a2 a3 t) := by
  unfold ossuaryref18_Lag.f lagO
  repeat' split
  all_goals rfl
def dueP (t i a0 a1 a2 a3 a4 a5 a6 a7 a8 h : Int) : Prop := right t i ∧ polP a0 a1 a2 a3 a4 a5 a6 a7 a8 ∧ hi t i + (lagO a1 a2 a3 t).1 ≤ h
instance (t i a0 a1 a2 a3 a4 a5 a6 a7 a8 h : Int) : Decidable (dueP t i a0 a1 a2 a3 a4 a5 a6 a7 a8 h) := by unfold dueP; infer_instance
theorem lag_bd (a0 a1 a2 a3 a4 a5 a6 a7 a8 t : Int) (h : polP a0 a1 a2 a3 a4 a5 a6 a7 a8) : 0 ≤ (lagO a1 a2 a3 t).1 ∧ (lagO a1 a2 a3 t).1 ≤ 1048576 := by
  obtain ⟨_, h1, h2, h3, _⟩ := h
  unfold lagO
  repeat' split
  all_goals simp <;> omega
theorem part_Due_eq (k : Nat) (t i a0 a1 a2 a3 a4 a5 a6 a7 a8 h : Int) (hk : 2 ≤ k) (h0 : -4611686018427387904 ≤ h) (h1 : h ≤ 4611686018427387904) : part_Due.f k t i a0 a1 a2 a3 a4 a5 a6 a7 a8 h = some (decide (dueP t i a0 a1 a2 a3 a4 a5 a6 a7 a8 h)) := by
  obtain ⟨k, rfl⟩ : ∃ q, k = q + 1 := ⟨k - 1, by omega⟩
  unfold part_Due.f
  rw [part_Right_eq (k + 1) t i (by omega)]
  simp only [Option.bind_some]
  by_cases r : right t i
  · rw [if_pos (decide_eq_true r), policy_Check_eq]
    simp only [Option.bind_some]
    by_cases p : polP a0 a1 a2 a3 a4 a5 a6 a7 a8
    · have l := lag_bd a0 a1 a2 a3 a4 a5 a6 a7 a8 t p
      have b := lohi_bd t i r
      rw [if_pos p, part_Due.j0, if_neg (by decide), policy_Lag_eq, part_Span_eq k t i (by omega)]
      simp only [Option.bind_some]
      unfold spanO
      rw [if_pos r, w64 _ (by omega)]
      simp only
      congr 1
      exact decide_eq_decide.mpr ⟨fun x => ⟨r, p, by omega⟩, fun x => by have := x.2.2; omega⟩
    · rw [if_neg p, part_Due.j0, if_pos (by decide), decide_eq_false (fun x => p x.2.1)]
  · rw [if_neg (by simpa using r), part_Due.j0, if_pos rfl, decide_eq_false (fun x => r x.1)]
theorem ref_Due_eq (k : Nat) (t i a0 a1 a2 a3 a4 a5 a6 a7 a8 h : Int) (hk : 4000 ≤ k) : ossuaryref19_Due.f k t i a0 a1 a2 a3 a4 a5 a6 a7 a8 h = some (decide (dueP t i a0 a1 a2 a3 a4 a5 a6 a7 a8 h)) := by
  unfold ossuaryref19_Due.f
  rw [ref_Lag_eq, ref_Span19_eq k t i hk, ref_Right_eq k t i (by omega)]
  simp only [Option.bind_some]
  by_cases r : right t i
  · rw [if_pos (decide_eq_true r), ref_Check_eq k _ _ _ _ _ _ _ _ _ (by omega)]
    simp only [Option.bind_some]
    by_cases p : polP a0 a1 a2 a3 a4 a5 a6 a7 a8
    · have l := lag_bd a0 a1 a2 a3 a4 a5 a6 a7 a8 t p
      have b := lohi_bd t i r
      rw [if_pos p, if_pos rfl]
      unfold spanO
      rw [if_pos r, w64 _ (by simp only; omega)]
      simp only
      congr 1
      exact decide_eq_decide.mpr ⟨fun x => ⟨r, p, by omega⟩, fun x => by have := x.2.2; omega⟩
    · rw [if_neg p, if_neg (by decide), decide_eq_false (fun x => p x.2.1)]
  · rw [if_neg (by simpa using r), decide_eq_false (fun x => r x.1)]
/-- Is the tier's partition of an hour there, and due. -/
def dueT (o a0 a1 a2 a3 a4 a5 a6 a7 a8 h t : Int) : Prop := (ofO t o).2.2 = true ∧ dueP (ofO t o).1 (ofO t o).2.1 a0 a1 a2 a3 a4 a5 a6 a7 a8 h
instance (o a0 a1 a2 a3 a4 a5 a6 a7 a8 h t : Int) : Decidable (dueT o a0 a1 a2 a3 a4 a5 a6 a7 a8 h t) := by unfold dueT; infer_instance
def bestO (o a0 a1 a2 a3 a4 a5 a6 a7 a8 h : Int) : Int := if dueT o a0 a1 a2 a3 a4 a5 a6 a7 a8 h 3 then 3 else if dueT o a0 a1 a2 a3 a4 a5 a6 a7 a8 h 2 then 2 else if dueT o a0 a1 a2 a3 a4 a5 a6 a7 a8 h 1 then 1 else 0
theorem best_step (k n : Nat) (o a0 a1 a2 a3 a4 a5 a6 a7 a8 h : Int) (hk : 2 ≤ k) (h0 : -4611686018427387904 ≤ h) (h1 : h ≤ 4611686018427387904) : bestL k o a0 a1 a2 a3 a4 a5 a6 a7 a8 h (n + 1) = if dueT o a0 a1 a2 a3 a4 a5 a6 a7 a8 h ((n : Int) + 1) then some ((n : Int) + 1) else bestL k o a0 a1 a2 a3 a4 a5 a6 a7 a8 h n := by
  rw [bestL, part_Of_eq k _ _ (by omega)]
  simp only [Option.bind_some]
  by_cases c : (ofO ((n : Int) + 1) o).2.2 = true
  · rw [if_pos c, part_Due_eq k _ _ _ _ _ _ _ _ _ _ _ _ hk h0 h1]
    simp only [Option.bind_some]
    by_cases d : dueP (ofO ((n : Int) + 1) o).1 (ofO ((n : Int) + 1) o).2.1 a0 a1 a2 a3 a4 a5 a6 a7 a8 h
    · rw [if_pos (decide_eq_true d), if_pos (show dueT o a0 a1 a2 a3 a4 a5 a6 a7 a8 h ((n : Int) + 1) from ⟨c, d⟩)]
    · rw [if_neg (by simpa using d), if_neg (show ¬ dueT o a0 a1 a2 a3 a4 a5 a6 a7 a8 h ((n : Int) + 1) from fun x => d x.2)]
  · rw [if_neg c, if_neg (show ¬ dueT o a0 a1 a2 a3 a4 a5 a6 a7 a8 h ((n : Int) + 1) from fun x => c x.1)]
theorem part_Best_eq (k : Nat) (o a0 a1 a2 a3 a4 a5 a6 a7 a8 h : Int) (hk : 2 ≤ k) (h0 : -4611686018427387904 ≤ h) (h1 : h ≤ 4611686018427387904) : part_Best.f k o a0 a1 a2 a3 a4 a5 a6 a7 a8 h = some (bestO o a0 a1 a2 a3 a4 a5 a6 a7 a8 h) := by
  unfold part_Best.f bestO
  rw [best_step k 2 _ _ _ _ _ _ _ _ _ _ _ hk h0 h1, best_step k 1 _ _ _ _ _ _ _ _ _ _ _ hk h0 h1, best_step k 0 _ _ _ _ _ _ _ _ _ _ _ hk h0 h1, bestL]
  simp only [show ((2 : Nat) : Int) + 1 = 3 from rfl, show ((1 : Nat) : Int) + 1 = 2 from rfl, show ((0 : Nat) : Int) + 1 = 1 from rfl]
  repeat' split
  all_goals rfl
theorem ref_best_step (k : Nat) (o b t a0 a1 a2 a3 a4 a5 a6 a7 a8 h : Int) (ht : 1 ≤ t ∧ t ≤ 3) (hk : 4001 ≤ k) : ossuaryref19_Best.l0 (k + 1) o h b t a0 a1 a2 a3 a4 a5 a6 a7 a8 = ossuaryref19_Best.l0 k o h (if dueT o a0 a1 a2 a3 a4 a5 a6 a7 a8 h t then t else b) (t + 1) a0 a1 a2 a3 a4 a5 a6 a7 a8 := by
  rw [ossuaryref19_Best.l0, if_pos ht.2, ref_Of_eq k t o (by omega)]
  simp only [Option.bind_some]
  rw [w64 (t + 1) (by omega)]
  by_cases c : (ofO t o).2.2 = true
  · rw [if_pos c, ref_Due_eq k _ _ _ _ _ _ _ _ _ _ _ _ (by omega)]
    simp only [Option.bind_some]
    by_cases d : dueP (ofO t o).1 (ofO t o).2.1 a0 a1 a2 a3 a4 a5 a6 a7 a8 h
    · rw [if_pos (decide_eq_true d), if_pos (show dueT o a0 a1 a2 a3 a4 a5 a6 a7 a8 h t from ⟨c, d⟩)]
    · rw [if_neg (by simpa using d), if_neg (show ¬ dueT o a0 a1 a2 a3 a4 a5 a6 a7 a8 h t from fun x => d x.2)]
  · rw [if_neg c, if_neg (show ¬ dueT o a0 a1 a2 a3 a4 a5 a6 a7 a8 h t from fun x => c x.1)]
theorem ref_Best_eq (k : Nat) (o a0 a1 a2 a3 a4 a5 a6 a7 a8 h : Int) (hk : 4100 ≤ k) : ossuaryref19_Best.f k o a0 a1 a2 a3 a4 a5 a6 a7 a8 h = some (bestO o a0 a1 a2 a3 a4 a5 a6 a7 a8 h) := by
  obtain ⟨k, rfl⟩ : ∃ q, k = q + 4 := ⟨k - 4, by omega⟩
  unfold ossuaryref19_Best.f bestO
  rw [ref_best_step (k + 3) o 0 1 _ _ _ _ _ _ _ _ _ _ (by omega) (by omega), show (1 : Int) + 1 = 2 from rfl, ref_best_step (k + 2) o _ 2 _ _ _ _ _ _ _ _ _ _ (by omega) (by omega), show (2 : Int) + 1 = 3 from rfl, ref_best_step (k + 1) o _ 3 _ _ _ _ _ _ _ _ _ _ (by omega) (by omega), show (3 : Int) + 1 = 4 from rfl, ossuaryref19_Best.l0, if_neg (by decide)]
end Go.Proofs.Ytncmmnbpkeemmaa.Civ
