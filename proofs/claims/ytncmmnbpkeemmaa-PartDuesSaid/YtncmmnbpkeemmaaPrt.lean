import Derived.Test.YtncmmnbpkeemmaaPx11
import Derived.Test.YtncmmnbpkeemmaaPx12
import Derived.Test.YtncmmnbpkeemmaaPx14
import Derived.Test.YtncmmnbpkeemmaaMon
namespace Go.Proofs.Ytncmmnbpkeemmaa.Civ
set_option linter.unusedVariables false
set_option linter.unusedSimpArgs false
open Go.RowKit Go.Proofs.Ytncmmnbpkeemmaa.P Go.Proofs.YtncmmnbpkeemmaaW.PrintWords Go.Proofs.YtncmmnbpkeemmaaW.PrintLast Go.Proofs.YtncmmnbpkeemmaaW.PrintMore Go.Proofs.Ytncmmnbpkeemmaa.Cal

/-- The greatest index of a tier; -1: it is none. -/
def most (t : Int) : Int := if t = 1 then 16777216 else if t = 2 then 699050 else if t = 3 then monOf 699050 else -1
def right (t i : Int) : Prop := 0 ≤ i ∧ i ≤ most t
instance (t i : Int) : Decidable (right t i) := by unfold right; infer_instance
/-- The hours of a partition. -/
def lo (t i : Int) : Int := if t = 1 then i else if t = 2 then 24 * i else 24 * spanA i
def hi (t i : Int) : Int := if t = 1 then i + 1 else if t = 2 then 24 * (i + 1) else 24 * spanA (i + 1)
def spanO (t i : Int) : Int × Int := if right t i then (lo t i, hi t i) else (0, 0)
def ofO (t h : Int) : Int × Int × Bool := if 0 ≤ h ∧ h ≤ 16777216 ∧ 1 ≤ t ∧ t ≤ 3 then (t, if t = 1 then h else if t = 2 then h / 24 else monOf (h / 24), true) else (0, 0, false)
theorem monM_bd : 0 ≤ monOf 699050 ∧ monOf 699050 ≤ 35000 := by
  have h := date_ok 699050 (by omega) (by omega)
  have b := date_bd 699050 (by omega) (by omega)
  have hy : dateY 699050 ≤ 4800 := by
    have a := num_year (dateY 699050) (dateM 699050) (dateD 699050) ⟨h.2.2.1, h.2.2.2.1⟩ ⟨h.2.2.2.2.1, h.2.2.2.2.2.1⟩
    rw [h.2.2.2.2.2.2] at a
    have b := a.1
    unfold dby at b
    omega
  unfold monOf
  omega
theorem right_tier (t i : Int) (h : right t i) : (t = 1 ∧ 0 ≤ i ∧ i ≤ 16777216) ∨ (t = 2 ∧ 0 ≤ i ∧ i ≤ 699050) ∨ (t = 3 ∧ 0 ≤ i ∧ i ≤ monOf 699050 ∧ i ≤ 35000) := by
  have b := monM_bd
  unfold right most at h
  by_cases h1 : t = 1
  · rw [if_pos h1] at h; exact .inl ⟨h1, h.1, h.2⟩
  · rw [if_neg h1] at h
    by_cases h2 : t = 2
    · rw [if_pos h2] at h; exact .inr (.inl ⟨h2, h.1, h.2⟩)
    · rw [if_neg h2] at h
      by_cases h3 : t = 3
      · rw [if_pos h3] at h; exact .inr (.inr ⟨h3, h.1, h.2, by omega⟩)
      · rw [if_neg h3] at h; omega
theorem right_mk1 (i : Int) : right 1 i ↔ 0 ≤ i ∧ i ≤ 16777216 := Iff.rfl
theorem right_mk2 (i : Int) : right 2 i ↔ 0 ≤ i ∧ i ≤ 699050 := Iff.rfl
theorem right_mk3 (i : Int) : right 3 i ↔ 0 ≤ i ∧ i ≤ monOf 699050 := Iff.rfl
theorem ofO_no (t h : Int) (c : ¬ (0 ≤ h ∧ h ≤ 16777216 ∧ 1 ≤ t ∧ t ≤ 3)) : ofO t h = (0, 0, false) := by unfold ofO; rw [if_neg c]
theorem part_Of_eq (k : Nat) (t h : Int) (hk : 1 ≤ k) : part_Of.f k t h = some (ofO t h) := by
  obtain ⟨k, rfl⟩ : ∃ q, k = q + 1 := ⟨k - 1, by omega⟩
  unfold part_Of.f
  by_cases c0 : h < 0
  · rw [if_pos c0, ofO_no t h (by omega), part_Of.j0, if_pos rfl]
  · rw [if_neg c0]
    by_cases c1 : h > 16777216
    · rw [decide_eq_true c1, ofO_no t h (by omega), part_Of.j0, if_pos rfl]
    · rw [decide_eq_false c1, part_Of.j0, if_neg (by decide), civil_DayOf_eq h (by omega) (by omega)]
      simp only [Option.bind_some]
      rw [civil_MonthOf_eq (h / 24) (by omega) (by omega)]
      simp only [Option.bind_some]
      unfold ofO
      by_cases t1 : t = 1
      · rw [if_pos t1, if_pos (by omega), if_pos t1]
      · rw [if_neg t1]
        by_cases t2 : t = 2
        · rw [if_pos t2, if_pos (by omega), if_neg t1, if_pos t2]
        · rw [if_neg t2]
          by_cases t3 : t = 3
          · rw [if_pos t3, if_pos (by omega), if_neg t1, if_neg t2]
          · rw [if_neg t3, if_neg (by omega)]
theorem ref_most_eq (k : Nat) (t : Int) (hk : 3061 ≤ k) : ossuaryref19_most.f k t = some (most t) := by
  unfold ossuaryref19_most.f most
  rw [ref_MonthOf_eq k 699050 (by omega) (by omega) (by omega)]
  simp only [Option.bind_some]
  repeat' split
  all_goals rfl
theorem ref_Of_eq (k : Nat) (t h : Int) (hk : 3062 ≤ k) : ossuaryref19_Of.f k t h = some (ofO t h) := by
  obtain ⟨k, rfl⟩ : ∃ q, k = q + 1 := ⟨k - 1, by omega⟩
  have b := monM_bd
  unfold ossuaryref19_Of.f
  by_cases c0 : h < 0
  · rw [if_pos c0, ofO_no t h (by omega), ossuaryref19_Of.j0, if_pos rfl]
  · rw [if_neg c0]
    by_cases c1 : h > 16777216
    · rw [if_pos c1, ofO_no t h (by omega), ossuaryref19_Of.j0, if_pos rfl]
    · rw [if_neg c1, ref_most_eq (k + 1) t (by omega)]
      simp only [Option.bind_some]
      by_cases ct : 1 ≤ t ∧ t ≤ 3
      · have hm : ¬ most t < 0 := by
          unfold most
          split
          · omega
          · split
            · omega
            · split <;> omega
        rw [decide_eq_false hm, ossuaryref19_Of.j0, if_neg (by decide), td _ _ (by omega), w64 _ (by omega), ref_MonthOf_eq k (h / 24) (by omega) (by omega) (by omega)]
        simp only [Option.bind_some]
        unfold ofO
        rw [if_pos (show 0 ≤ h ∧ h ≤ 16777216 ∧ 1 ≤ t ∧ t ≤ 3 by omega)]
        by_cases t1 : t = 1
        · rw [if_pos t1, if_pos t1]
        · rw [if_neg t1, if_neg t1]
          by_cases t2 : t = 2
          · rw [if_pos t2, if_pos t2]
          · rw [if_neg t2, if_neg t2]
      · have hm : most t < 0 := by unfold most; rw [if_neg (by omega), if_neg (by omega), if_neg (by omega)]; omega
        rw [decide_eq_true hm, ossuaryref19_Of.j0, if_pos rfl, ofO_no t h (by omega)]
theorem part_Right_eq (k : Nat) (t i : Int) (hk : 1 ≤ k) : part_Right.f k t i = some (decide (right t i)) := by
  unfold part_Right.f
  rw [part_Of_eq k t _ hk]
  simp only [Option.bind_some]
  by_cases ct : 1 ≤ t ∧ t ≤ 3
  · have e : ofO t 16777216 = (t, most t, true) := by
      unfold ofO most
      rw [if_pos (by omega), show (16777216 : Int) / 24 = 699050 from rfl]
      by_cases t1 : t = 1
      · rw [if_pos t1, if_pos t1]
      · rw [if_neg t1, if_neg t1]
        by_cases t2 : t = 2
        · rw [if_pos t2, if_pos t2]
        · rw [if_neg t2, if_neg t2, if_pos (show t = 3 by omega)]
    rw [e]
    simp only [if_true]
    by_cases c0 : i ≥ 0
    · rw [if_pos c0]
      congr 1
      exact decide_eq_decide.mpr ⟨fun h => ⟨c0, h⟩, fun h => h.2⟩
    · rw [if_neg c0, decide_eq_false (fun h => c0 h.1)]
  · rw [ofO_no t _ (by omega)]
    simp only
    have r : ¬ right t i := fun h => by rcases right_tier t i h with x | x | x <;> omega
    rw [if_neg (by decide), decide_eq_false r]
theorem ref_Right_eq (k : Nat) (t i : Int) (hk : 3061 ≤ k) : ossuaryref19_Right.f k t i = some (decide (right t i)) := by
  unfold ossuaryref19_Right.f
  by_cases c : i ≥ 0
  · rw [if_pos c, ref_most_eq k t hk]
    simp only [Option.bind_some]
    congr 1
    exact decide_eq_decide.mpr ⟨fun h => ⟨c, h⟩, fun h => h.2⟩
  · rw [if_neg c, decide_eq_false (fun h => c h.1)]
theorem lohi_bd (t i : Int) (h : right t i) : 0 ≤ lo t i ∧ lo t i < hi t i ∧ hi t i ≤ 30000000 := by
  rcases right_tier t i h with ⟨rfl, a, b⟩ | ⟨rfl, a, b⟩ | ⟨rfl, a, b, c⟩
  · unfold lo hi; simp; omega
  · unfold lo hi; simp; omega
  · have s := spanA_succ i a
    have l := len_bd (1970 + i / 12) (i % 12 + 1)
    have x := spanA_bd i a (by omega)
    have y := spanA_bd (i + 1) (by omega) (by omega)
    unfold lo hi; simp; omega
theorem part_Span_eq (k : Nat) (t i : Int) (hk : 1 ≤ k) : part_Span.f k t i = some (spanO t i) := by
  unfold part_Span.f spanO
  rw [part_Right_eq k t i hk]
  simp only [Option.bind_some]
  by_cases r : right t i
  · rw [if_pos r, decide_eq_true r, if_pos rfl]
    rcases right_tier t i r with ⟨rfl, a, b⟩ | ⟨rfl, a, b⟩ | ⟨rfl, a, b, c⟩
    · rw [if_neg (by decide), if_neg (by decide), w64 (i + 1) (by omega)]; rfl
    · rw [if_neg (by decide), if_pos rfl, w64 (i * 24) (by omega), w64 (i + 1) (by omega), w64 ((i + 1) * 24) (by omega)]
      unfold lo hi; simp; omega
    · have x := spanA_bd i a (by omega)
      have y := spanA_bd (i + 1) (by omega) (by omega)
      rw [if_pos rfl, civil_Span_eq i a (by omega)]
      simp only [Option.bind_some]
      rw [w64 (spanA i * 24) (by omega), w64 (spanA (i + 1) * 24) (by omega)]
      unfold lo hi; simp; omega
  · rw [if_neg r, decide_eq_false r, if_neg (by decide)]
theorem ref_Span19_eq (k : Nat) (t i : Int) (hk : 4000 ≤ k) : ossuaryref19_Span.f k t i = some (spanO t i) := by
  unfold ossuaryref19_Span.f spanO
  rw [ref_Right_eq k t i (by omega)]
  simp only [Option.bind_some]
  by_cases r : right t i
  · rw [if_pos r, decide_eq_true r, if_pos rfl]
    rcases right_tier t i r with ⟨rfl, a, b⟩ | ⟨rfl, a, b⟩ | ⟨rfl, a, b, c⟩
    · rw [if_pos rfl, w64 (i + 1) (by omega)]; rfl
    · rw [if_neg (by decide), if_pos rfl, w64 (24 * i) (by omega), w64 (i + 1) (by omega), w64 (24 * (i + 1)) (by omega)]; rfl
    · have x := spanA_bd i a (by omega)
      have y := spanA_bd (i + 1) (by omega) (by omega)
      rw [if_neg (by decide), if_neg (by decide), ref_Span_eq k i a (by omega) hk]
      simp only [Option.bind_some]
      rw [w64 (24 * spanA i) (by omega), w64 (24 * spanA (i + 1)) (by omega)]; rfl
  · rw [if_neg r, decide_eq_false r, if_neg (by decide)]
theorem alive19 (k : Nat) (hk : 1 ≤ k) : ossuarylaw19_alive.f k = some true := by
  unfold ossuarylaw19_alive.f
  rw [part_Span_eq k 2 1 hk, part_Right_eq k 3 0 hk]
  have r : right 2 1 := by rw [right_mk2]; omega
  have r3 : right 3 0 := by have := monM_bd; rw [right_mk3]; omega
  unfold spanO
  rw [if_pos r, decide_eq_true r3]
  rfl
/-- Does the hour lie in it. -/
def hasP (t i h : Int) : Prop := right t i ∧ lo t i ≤ h ∧ h < hi t i
instance (t i h : Int) : Decidable (hasP t i h) := by unfold hasP; infer_instance
theorem ref_Has_eq (k : Nat) (t i h : Int) (hk : 4000 ≤ k) : ossuaryref19_Has.f k t i h = some (decide (hasP t i h)) := by
  unfold ossuaryref19_Has.f
  rw [ref_Span19_eq k t i hk]
  simp only [Option.bind_some]
  unfold spanO
  by_cases r : right t i
  · rw [if_pos r]
    simp only
    by_cases c : h ≥ lo t i
    · rw [if_pos c]; congr 1; exact decide_eq_decide.mpr ⟨fun x => ⟨r, c, x⟩, fun x => x.2.2⟩
    · rw [if_neg c, decide_eq_false (fun x => c x.2.1)]
  · rw [if_neg r]
    simp only
    by_cases c : h ≥ 0
    · rw [if_pos c, decide_eq_false (show ¬ h < 0 by omega), decide_eq_false (fun x => r x.1)]
    · rw [if_neg c, decide_eq_false (fun x => r x.1)]
/-- The partition of an hour is the only one of its tier that has it. -/
theorem has_iff (t i h : Int) (h0 : 0 ≤ h) (h1 : h ≤ 16777216) (ht : 1 ≤ t ∧ t ≤ 3) : hasP t i h ↔ i = (ofO t h).2.1 := by
  unfold ofO
  rw [if_pos (by omega)]
  have hm := monM_bd
  have hd : ∀ d, 0 ≤ d → d ≤ 699050 → monOf d ≤ monOf 699050 := by
    intro d d0 d1
    have a := monOf_in d d0 (by omega)
    have b := monOf_in 699050 (by omega) (by omega)
    have c := monOf_bd d d0 (by omega)
    rcases Int.lt_or_le (monOf 699050) (monOf d) with e | e
    · have := spanA_lt (monOf 699050 + 1) (monOf d) (by omega) (by omega); omega
    · exact e
  constructor
  · rintro ⟨r, a, b⟩
    rcases right_tier t i r with ⟨rfl, x, y⟩ | ⟨rfl, x, y⟩ | ⟨rfl, x, y, z⟩
    · unfold lo at a; unfold hi at b; simp at a b ⊢; omega
    · unfold lo at a; unfold hi at b; simp at a b ⊢; omega
    · unfold lo at a; unfold hi at b
      simp at a b ⊢
      exact monOf_unique (h / 24) i (by omega) (by omega) x (by omega) (by omega)
  · intro e
    simp only at e
    have ht' : t = 1 ∨ t = 2 ∨ t = 3 := by omega
    rcases ht' with rfl | rfl | rfl
    · simp at e
      subst e
      refine ⟨by rw [right_mk1]; omega, ?_⟩
      unfold lo hi; simp; omega
    · simp at e
      subst e
      refine ⟨by rw [right_mk2]; omega, ?_⟩
      unfold lo hi; simp; omega
    · simp at e
      subst e
      have a := monOf_in (h / 24) (by omega) (by omega)
      have b := monOf_bd (h / 24) (by omega) (by omega)
      have c := hd (h / 24) (by omega) (by omega)
      refine ⟨by rw [right_mk3]; omega, ?_⟩
      unfold lo hi; simp; omega
theorem part_Has_eq (k : Nat) (t i h : Int) (hk : 1 ≤ k) : part_Has.f k t i h = some (decide (hasP t i h)) := by
  unfold part_Has.f
  rw [part_Of_eq k t h hk]
  simp only [Option.bind_some]
  by_cases c : 0 ≤ h ∧ h ≤ 16777216 ∧ 1 ≤ t ∧ t ≤ 3
  · have e := has_iff t i h c.1 c.2.1 c.2.2
    have e2 : (ofO t h).2.2 = true := by unfold ofO; rw [if_pos c]
    have e3 : (ofO t h).1 = t := by unfold ofO; rw [if_pos c]
    rw [if_pos e2, e3]
    congr 1
    rw [beq_self_eq_true, Bool.true_and, Bool.eq_iff_iff]
    simp only [beq_iff_eq, decide_eq_true_eq]
    rw [e]
    exact ⟨fun x => x.symm, fun x => x.symm⟩
  · rw [ofO_no t h c, if_neg (by decide), part_Span_eq k t i hk]
    simp only [Option.bind_some]
    unfold spanO
    by_cases r : right t i
    · rw [if_pos r]
      simp only
      by_cases c : h ≥ lo t i
      · rw [if_pos c]; congr 1; exact decide_eq_decide.mpr ⟨fun x => ⟨r, c, x⟩, fun x => x.2.2⟩
      · rw [if_neg c, decide_eq_false (fun x => c x.2.1)]
    · rw [if_neg r]
      simp only
      by_cases c : h ≥ 0
      · rw [if_pos c, decide_eq_false (show ¬ h < 0 by omega), decide_eq_false (fun x => r x.1)]
      · rw [if_neg c, decide_eq_false (fun x => r x.1)]

theorem part_spans_eq (k : Nat) (t i u j : Int) (hk : 1 ≤ k) : part_spans.f k t i u j = some (if right t i then lo t i else 0, if right t i then hi t i else 0, if right u j then lo u j else 0, if right u j then hi u j else 0, decide (right t i ∧ right u j)) := by
  unfold part_spans.f
  rw [part_Span_eq k t i hk, part_Span_eq k u j hk]
  simp only [Option.bind_some]
  unfold spanO
  by_cases r : right t i
  · have b := lohi_bd t i r
    rw [if_pos r, if_pos r, if_pos r]
    simp only
    rw [if_pos (show hi t i > 0 by omega)]
    by_cases s : right u j
    · have c := lohi_bd u j s
      rw [if_pos s, if_pos s, if_pos s]
      simp only
      rw [decide_eq_true (show hi u j > 0 by omega), decide_eq_true ⟨r, s⟩]
    · rw [if_neg s, if_neg s, if_neg s, decide_eq_false (show ¬ (right t i ∧ right u j) from fun h => s h.2)]; rfl
  · rw [if_neg r, if_neg r, if_neg r, decide_eq_false (show ¬ (right t i ∧ right u j) from fun h => r h.1)]
    simp only
    rw [if_neg (by decide)]
    by_cases s : right u j
    · rw [if_pos s, if_pos s, if_pos s]
    · rw [if_neg s, if_neg s, if_neg s]
def withinP (t i u j : Int) : Prop := right t i ∧ right u j ∧ lo u j ≤ lo t i ∧ hi t i ≤ hi u j
def meetsP (t i u j : Int) : Prop := right t i ∧ right u j ∧ lo t i < hi u j ∧ lo u j < hi t i
def lessP (t i u j : Int) : Prop := right t i ∧ right u j ∧ (lo t i < lo u j ∨ lo t i = lo u j ∧ t < u)
instance (t i u j : Int) : Decidable (withinP t i u j) := by unfold withinP; infer_instance
instance (t i u j : Int) : Decidable (meetsP t i u j) := by unfold meetsP; infer_instance
instance (t i u j : Int) : Decidable (lessP t i u j) := by unfold lessP; infer_instance
theorem part_Within_eq (k : Nat) (t i u j : Int) (hk : 1 ≤ k) : part_Within.f k t i u j = some (decide (withinP t i u j)) := by
  unfold part_Within.f
  rw [part_spans_eq k t i u j hk]
  simp only [Option.bind_some]
  by_cases r : right t i ∧ right u j
  · rw [if_pos (decide_eq_true r), if_pos r.1, if_pos r.1, if_pos r.2, if_pos r.2]
    by_cases c : lo t i ≥ lo u j
    · rw [if_pos c]; congr 1; exact decide_eq_decide.mpr ⟨fun x => ⟨r.1, r.2, c, x⟩, fun x => x.2.2.2⟩
    · rw [if_neg c, decide_eq_false (fun x => c x.2.2.1)]
  · rw [if_neg (by simpa using r), decide_eq_false (fun x => r ⟨x.1, x.2.1⟩)]
theorem part_Meets_eq (k : Nat) (t i u j : Int) (hk : 1 ≤ k) : part_Meets.f k t i u j = some (decide (meetsP t i u j)) := by
  unfold part_Meets.f
  rw [part_spans_eq k t i u j hk]
  simp only [Option.bind_some]
  by_cases r : right t i ∧ right u j
  · have b := lohi_bd t i r.1
    have c := lohi_bd u j r.2
    rw [if_pos (decide_eq_true r), if_pos r.1, if_pos r.1, if_pos r.2, if_pos r.2]
    congr 1
    refine decide_eq_decide.mpr ⟨fun x => ?_, fun x => ?_⟩
    · unfold mx mn at x
      refine ⟨r.1, r.2, ?_, ?_⟩ <;> (split at x <;> split at x <;> omega)
    · obtain ⟨_, _, x, y⟩ := x
      unfold mx mn
      split <;> split <;> omega
  · rw [if_neg (by simpa using r), decide_eq_false (fun x => r ⟨x.1, x.2.1⟩)]
theorem part_Less_eq (k : Nat) (t i u j : Int) (hk : 1 ≤ k) : part_Less.f k t i u j = some (decide (lessP t i u j)) := by
  unfold part_Less.f
  rw [part_spans_eq k t i u j hk]
  simp only [Option.bind_some]
  by_cases r : right t i ∧ right u j
  · rw [if_pos (decide_eq_true r), if_pos r.1, if_pos r.2]
    by_cases c : lo t i < lo u j
    · rw [if_pos c, decide_eq_true ⟨r.1, r.2, .inl c⟩]
    · rw [if_neg c]
      by_cases d : lo t i = lo u j
      · rw [if_pos d]; congr 1; exact decide_eq_decide.mpr ⟨fun x => ⟨r.1, r.2, .inr ⟨d, x⟩⟩, fun x => x.2.2.elim (fun y => absurd y c) (fun y => y.2)⟩
      · rw [if_neg d, decide_eq_false (fun x => x.2.2.elim c (fun y => d y.1))]
  · rw [if_neg (by simpa using r), decide_eq_false (fun x => r ⟨x.1, x.2.1⟩)]
theorem ref_Within_eq (k : Nat) (t i u j : Int) (hk : 4000 ≤ k) : ossuaryref19_Within.f k t i u j = some (decide (withinP t i u j)) := by
  unfold ossuaryref19_Within.f
  rw [ref_Span19_eq k t i hk, ref_Span19_eq k u j hk, ref_Right_eq k t i (by omega), ref_Right_eq k u j (by omega)]
  simp only [Option.bind_some]
  unfold spanO
  by_cases r : right t i
  · by_cases s : right u j
    · rw [if_pos (decide_eq_true r), if_pos (decide_eq_true s), if_pos r, if_pos s]
      simp only
      by_cases c : lo t i ≥ lo u j
      · rw [if_pos c]; congr 1; exact decide_eq_decide.mpr ⟨fun x => ⟨r, s, c, x⟩, fun x => x.2.2.2⟩
      · rw [if_neg c, decide_eq_false (fun x => c x.2.2.1)]
    · rw [if_pos (decide_eq_true r), if_neg (by simpa using s), decide_eq_false (fun x => s x.2.1)]
  · rw [if_neg (by simpa using r), decide_eq_false (fun x => r x.1)]
theorem ref_Meets_eq (k : Nat) (t i u j : Int) (hk : 4000 ≤ k) : ossuaryref19_Meets.f k t i u j = some (decide (meetsP t i u j)) := by
  unfold ossuaryref19_Meets.f
  rw [ref_Span19_eq k t i hk, ref_Span19_eq k u j hk, ref_Right_eq k t i (by omega), ref_Right_eq k u j (by omega)]
  simp only [Option.bind_some]
  unfold spanO
  by_cases r : right t i
  · by_cases s : right u j
    · rw [if_pos (decide_eq_true r), if_pos (decide_eq_true s), if_pos r, if_pos s]
      simp only
      by_cases c : lo t i < hi u j
      · rw [if_pos c]; congr 1; exact decide_eq_decide.mpr ⟨fun x => ⟨r, s, c, x⟩, fun x => x.2.2.2⟩
      · rw [if_neg c, decide_eq_false (fun x => c x.2.2.1)]
    · rw [if_pos (decide_eq_true r), if_neg (by simpa using s), decide_eq_false (fun x => s x.2.1)]
  · rw [if_neg (by simpa using r), decide_eq_false (fun x => r x.1)]
theorem ref_Less_eq (k : Nat) (t i u j : Int) (hk : 4000 ≤ k) : ossuaryref19_Less.f k t i u j = some (decide (lessP t i u j)) := by
  unfold ossuaryref19_Less.f
  rw [ref_Span19_eq k t i hk, ref_Span19_eq k u j hk, ref_Right_eq k t i (by omega), ref_Right_eq k u j (by omega)]
  simp only [Option.bind_some]
  unfold spanO
  by_cases r : right t i
  · by_cases s : right u j
    · rw [if_pos (decide_eq_true r), if_pos (decide_eq_true s), if_pos r, if_pos s]
      simp only
      by_cases c : lo t i < lo u j
      · rw [if_pos c, decide_eq_true ⟨r, s, .inl c⟩]
      · rw [if_neg c]
        by_cases d : lo t i = lo u j
        · rw [if_pos d]; congr 1; exact decide_eq_decide.mpr ⟨fun x => ⟨r, s, .inr ⟨d, x⟩⟩, fun x => x.2.2.elim (fun y => absurd y c) (fun y => y.2)⟩
        · rw [if_neg d, decide_eq_false (fun x => x.2.2.elim c (fun y => d y.1))]
    · rw [if_pos (decide_eq_true r), if_neg (by simpa using s), decide_eq_false (fun x => s x.2.1)]
  · rw [if_neg (by simpa using r), decide_eq_false (fun x => r x.1)]
end Go.Proofs.Ytncmmnbpkeemmaa.Civ
