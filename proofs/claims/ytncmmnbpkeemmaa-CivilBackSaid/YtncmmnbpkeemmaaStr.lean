import Derived.Test.YtncmmnbpkeemmaaPx2
import Derived.Test.YtncmmnbpkeemmaaPx5
import Derived.Test.YtncmmnbpkeemmaaPx13
import Derived.Test.YtncmmnbpkeemmaaPar
namespace Go.Proofs.Ytncmmnbpkeemmaa.Civ
set_option linter.unusedVariables false
set_option linter.unusedSimpArgs false
open Go.RowKit Go.Proofs.Ytncmmnbpkeemmaa.P Go.Proofs.YtncmmnbpkeemmaaW.PrintWords Go.Proofs.YtncmmnbpkeemmaaW.PrintLast Go.Proofs.YtncmmnbpkeemmaaW.PrintMore Go.Proofs.Ytncmmnbpkeemmaa.Cal

/-- What the four numbers come to. -/
def finO (y m d h : Int) : Int × Bool := if (numO y m d).2 = true then (if 24 ≤ h then (0, false) else if 16777216 < (numO y m d).1 * 24 + h then (0, false) else ((numO y m d).1 * 24 + h, true)) else (0, false)
theorem num_bd (y m d : Int) (hy : 1970 ≤ y ∧ y ≤ 4900) (hm : 1 ≤ m ∧ m ≤ 12) (hd : 1 ≤ d ∧ d ≤ len y m) : 0 ≤ num y m d ∧ num y m d ≤ 1100000 := by
  have a := num_year y m d hm hd
  have b := dby_1970
  have c := dby_mono 1970 y hy.1
  have e := dby_mono 1970 (y + 1) (by omega)
  have f := dby_5000
  have g := dby_mono (y + 1) 5000 (by omega)
  omega
theorem parEnd_eq (k : Nat) (y m d h : Int) (hk : 2 ≤ k) (h0 : 0 ≤ h) (h1 : h ≤ 99) : parEnd k (some [y, m, d, h]) = some (finO y m d h) := by
  show ((civil_Number.f k (numG [y, m, d, h] 0) (numG [y, m, d, h] 1) (numG [y, m, d, h] 2)).bind fun d_1 =>
    if d_1.2 = true then (if 24 ≤ numG [y, m, d, h] 3 then some (0, false) else if 16777216 < wrap64 (wrap64 (d_1.1 * 24) + numG [y, m, d, h] 3) then some (0, false) else some (wrap64 (wrap64 (d_1.1 * 24) + numG [y, m, d, h] 3), true)) else some (0, false)) = some (finO y m d h)
  have e0 : numG [y, m, d, h] 0 = y := rfl
  have e1 : numG [y, m, d, h] 1 = m := rfl
  have e2 : numG [y, m, d, h] 2 = d := rfl
  have e3 : numG [y, m, d, h] 3 = h := rfl
  rw [e0, e1, e2, e3, civil_Number_eq k y m d hk]
  simp only [Option.bind_some]
  unfold finO
  rcases numO_val y m d with e | ⟨y0, y1, m0, m1, d0, d1, e⟩
  · rw [e]; simp
  · have b := num_bd y m d ⟨y0, y1⟩ ⟨m0, m1⟩ ⟨d0, d1⟩
    rw [e]
    simp only [if_true]
    rw [w64 (num y m d * 24) (by omega), w64 (num y m d * 24 + h) (by omega)]
    split
    · rfl
    · split <;> rfl
open Classical in
theorem civil_Parse_eq (k : Nat) (s : ByteArray) (hk : 2 ≤ k) : civil_Parse.f k s = some (if s.size = 13 ∧ allOk s then finO (nY s) (nM s) (nD s) (nH s) else (0, false)) := by
  unfold civil_Parse.f
  by_cases c : s.size = 13
  · rw [if_pos c]
    by_cases a : allOk s
    · rw [par_all s a, if_pos ⟨c, a⟩]
      simp only [Option.bind_some]
      have d := digs s a
      exact parEnd_eq k _ _ _ _ hk (by unfold nH; omega) (by unfold nH; omega)
    · rw [par_none s a, if_neg (fun h => a h.2)]; rfl
  · rw [if_neg c, if_neg (fun h => c h.1)]
/-- The letters of a text that was made of numbers. -/
theorem byt_nums (l : List Int) (i : Nat) (h : ∀ x ∈ l, 0 ≤ x ∧ x ≤ 255) (hi : i < l.length) : byt (strOfNums l) i = l.getD i 0 := by
  unfold byt
  rw [strOfNums_data]
  simp only [List.getD_eq_getElem?_getD, List.getElem?_map, List.getElem?_eq_getElem hi, Option.map_some, Option.getD_some]
  have := h l[i] (List.getElem_mem hi)
  rw [UInt8.toNat_ofNat_of_lt' (by show l[i].toNat < 256; omega)]
  omega
/-- Texts of 13 letters are the same where their letters are. -/
theorem str_eq (s : ByteArray) (l : List Int) (hs : s.size = l.length) (h : ∀ x ∈ l, 0 ≤ x ∧ x ≤ 255) (hb : ∀ i, i < l.length → byt s i = l.getD i 0) : strOfNums l = s := by
  have hl : s.data.toList.length = l.length := by rw [Array.length_toList]; exact hs
  have e : (l.map fun n => UInt8.ofNat n.toNat) = s.data.toList := by
    apply List.ext_getElem (by simp [hl])
    intro i h1 h2
    have hi : i < l.length := by simpa using h1
    have b := hb i hi
    unfold byt at b
    simp only [List.getD_eq_getElem?_getD, List.getElem?_eq_getElem hi, List.getElem?_eq_getElem h2, Option.getD_some] at b
    rw [List.getElem_map, ← b]
    simp
  unfold strOfNums
  rw [e]
theorem row_mem (y m d h : Int) (hy : 1000 ≤ y ∧ y ≤ 9999) (hm : 0 ≤ m ∧ m ≤ 99) (hd : 0 ≤ d ∧ d ≤ 99) (hh : 0 ≤ h ∧ h ≤ 99) : ∀ x ∈ rowL y m d h, 0 ≤ x ∧ x ≤ 255 := by
  intro x hx
  simp only [rowL, List.mem_cons, List.not_mem_nil, or_false] at hx
  omega
theorem row_ok (y m d h : Int) (hy : 1000 ≤ y ∧ y ≤ 9999) (hm : 0 ≤ m ∧ m ≤ 99) (hd : 0 ≤ d ∧ d ≤ 99) (hh : 0 ≤ h ∧ h ≤ 99) :
    (strOfNums (rowL y m d h)).size = 13 ∧ allOk (strOfNums (rowL y m d h)) ∧ nY (strOfNums (rowL y m d h)) = y ∧ nM (strOfNums (rowL y m d h)) = m ∧ nD (strOfNums (rowL y m d h)) = d ∧ nH (strOfNums (rowL y m d h)) = h := by
  have mem := row_mem y m d h hy hm hd hh
  have b : ∀ i, i < 13 → byt (strOfNums (rowL y m d h)) i = (rowL y m d h).getD i 0 := fun i hi => byt_nums _ i mem hi
  have b0 : byt (strOfNums (rowL y m d h)) 0 = 48 + y / 1000 := b 0 (by omega)
  have b1 : byt (strOfNums (rowL y m d h)) 1 = 48 + y / 100 % 10 := b 1 (by omega)
  have b2 : byt (strOfNums (rowL y m d h)) 2 = 48 + y / 10 % 10 := b 2 (by omega)
  have b3 : byt (strOfNums (rowL y m d h)) 3 = 48 + y % 10 := b 3 (by omega)
  have b5 : byt (strOfNums (rowL y m d h)) 5 = 48 + m / 10 := b 5 (by omega)
  have b6 : byt (strOfNums (rowL y m d h)) 6 = 48 + m % 10 := b 6 (by omega)
  have b8 : byt (strOfNums (rowL y m d h)) 8 = 48 + d / 10 := b 8 (by omega)
  have b9 : byt (strOfNums (rowL y m d h)) 9 = 48 + d % 10 := b 9 (by omega)
  have b11 : byt (strOfNums (rowL y m d h)) 11 = 48 + h / 10 := b 11 (by omega)
  have b12 : byt (strOfNums (rowL y m d h)) 12 = 48 + h % 10 := b 12 (by omega)
  refine ⟨by rw [strOfNums_size]; rfl, ?_, by unfold nY dg; rw [b0, b1, b2, b3]; omega, by unfold nM dg; rw [b5, b6]; omega, by unfold nD dg; rw [b8, b9]; omega, by unfold nH dg; rw [b11, b12]; omega⟩
  intro i hi
  have bi := b i hi
  unfold okAt
  rw [bi]
  have F : ∀ j, frm j = textRow.getD j 0 := fun j => rfl
  match i, hi with
  | 0, _ => rw [if_pos (by decide)]; show 48 ≤ 48 + y / 1000 ∧ 48 + y / 1000 ≤ 57; omega
  | 1, _ => rw [if_pos (by decide)]; show 48 ≤ 48 + y / 100 % 10 ∧ 48 + y / 100 % 10 ≤ 57; omega
  | 2, _ => rw [if_pos (by decide)]; show 48 ≤ 48 + y / 10 % 10 ∧ 48 + y / 10 % 10 ≤ 57; omega
  | 3, _ => rw [if_pos (by decide)]; show 48 ≤ 48 + y % 10 ∧ 48 + y % 10 ≤ 57; omega
  | 4, _ => rw [if_neg (by decide)]; rfl
  | 5, _ => rw [if_pos (by decide)]; show 48 ≤ 48 + m / 10 ∧ 48 + m / 10 ≤ 57; omega
  | 6, _ => rw [if_pos (by decide)]; show 48 ≤ 48 + m % 10 ∧ 48 + m % 10 ≤ 57; omega
  | 7, _ => rw [if_neg (by decide)]; rfl
  | 8, _ => rw [if_pos (by decide)]; show 48 ≤ 48 + d / 10 ∧ 48 + d / 10 ≤ 57; omega
  | 9, _ => rw [if_pos (by decide)]; show 48 ≤ 48 + d % 10 ∧ 48 + d % 10 ≤ 57; omega
  | 10, _ => rw [if_neg (by decide)]; rfl
  | 11, _ => rw [if_pos (by decide)]; show 48 ≤ 48 + h / 10 ∧ 48 + h / 10 ≤ 57; omega
  | 12, _ => rw [if_pos (by decide)]; show 48 ≤ 48 + h % 10 ∧ 48 + h % 10 ≤ 57; omega
theorem ok_row (s : ByteArray) (hs : s.size = 13) (h : allOk s) : strOfNums (rowL (nY s) (nM s) (nD s) (nH s)) = s := by
  obtain ⟨⟨a0, b0⟩, ⟨a1, b1⟩, ⟨a2, b2⟩, ⟨a3, b3⟩, ⟨a5, b5⟩, ⟨a6, b6⟩, ⟨a8, b8⟩, ⟨a9, b9⟩, ⟨a11, b11⟩, ⟨a12, b12⟩⟩ := digs s h
  have c4 : byt s 4 = 45 := by have := h 4 (by omega); unfold okAt at this; rw [if_neg (by decide)] at this; exact this
  have c7 : byt s 7 = 45 := by have := h 7 (by omega); unfold okAt at this; rw [if_neg (by decide)] at this; exact this
  have c10 : byt s 10 = 84 := by have := h 10 (by omega); unfold okAt at this; rw [if_neg (by decide)] at this; exact this
  refine str_eq s _ hs ?_ ?_
  · intro x hx
    simp only [rowL, List.mem_cons, List.not_mem_nil, or_false] at hx
    unfold nY nM nD nH at hx
    omega
  · intro i hi
    have hi : i < 13 := hi
    unfold dg at *
    unfold nY nM nD nH dg
    match i, hi with
    | 0, _ => show byt s 0 = 48 + (1000 * (byt s 0 - 48) + 100 * (byt s 1 - 48) + 10 * (byt s 2 - 48) + (byt s 3 - 48)) / 1000; omega
    | 1, _ => show byt s 1 = 48 + (1000 * (byt s 0 - 48) + 100 * (byt s 1 - 48) + 10 * (byt s 2 - 48) + (byt s 3 - 48)) / 100 % 10; omega
    | 2, _ => show byt s 2 = 48 + (1000 * (byt s 0 - 48) + 100 * (byt s 1 - 48) + 10 * (byt s 2 - 48) + (byt s 3 - 48)) / 10 % 10; omega
    | 3, _ => show byt s 3 = 48 + (1000 * (byt s 0 - 48) + 100 * (byt s 1 - 48) + 10 * (byt s 2 - 48) + (byt s 3 - 48)) % 10; omega
    | 4, _ => exact c4
    | 5, _ => show byt s 5 = 48 + (10 * (byt s 5 - 48) + (byt s 6 - 48)) / 10; omega
    | 6, _ => show byt s 6 = 48 + (10 * (byt s 5 - 48) + (byt s 6 - 48)) % 10; omega
    | 7, _ => exact c7
    | 8, _ => show byt s 8 = 48 + (10 * (byt s 8 - 48) + (byt s 9 - 48)) / 10; omega
    | 9, _ => show byt s 9 = 48 + (10 * (byt s 8 - 48) + (byt s 9 - 48)) % 10; omega
    | 10, _ => exact c10
    | 11, _ => show byt s 11 = 48 + (10 * (byt s 11 - 48) + (byt s 12 - 48)) / 10; omega
    | 12, _ => show byt s 12 = 48 + (10 * (byt s 11 - 48) + (byt s 12 - 48)) % 10; omega
theorem finO_val (y m d h : Int) (h0 : 0 ≤ h) : finO y m d h = (0, false) ∨ ∃ n, finO y m d h = (n, true) ∧ 0 ≤ n ∧ n ≤ 16777216 ∧ dateY (n / 24) = y ∧ dateM (n / 24) = m ∧ dateD (n / 24) = d ∧ n % 24 = h ∧ 1970 ≤ y ∧ y ≤ 4900 ∧ 1 ≤ m ∧ m ≤ 12 ∧ 1 ≤ d ∧ d ≤ 31 := by
  unfold finO
  rcases numO_val y m d with e | ⟨y0, y1, m0, m1, d0, d1, e⟩
  · rw [e]; exact .inl rfl
  · have b := num_bd y m d ⟨y0, y1⟩ ⟨m0, m1⟩ ⟨d0, d1⟩
    have l := len_bd y m
    rw [e]
    simp only [if_true]
    by_cases c1 : 24 ≤ h
    · rw [if_pos c1]; exact .inl rfl
    · rw [if_neg c1]
      by_cases c2 : 16777216 < num y m d * 24 + h
      · rw [if_pos c2]; exact .inl rfl
      · rw [if_neg c2]
        have e1 : (num y m d * 24 + h) / 24 = num y m d := by omega
        have g := date_ok (num y m d) b.1 (by omega)
        obtain ⟨q1, q2, q3⟩ := num_inj _ _ _ y m d ⟨g.2.2.1, g.2.2.2.1⟩ ⟨g.2.2.2.2.1, g.2.2.2.2.2.1⟩ ⟨m0, m1⟩ ⟨d0, d1⟩ g.2.2.2.2.2.2
        exact .inr ⟨num y m d * 24 + h, rfl, by omega, by omega, by rw [e1]; exact q1, by rw [e1]; exact q2, by rw [e1]; exact q3, by omega, y0, y1, m0, m1, d0, by omega⟩
/-- The hour of a date that an hour has. -/
theorem finO_date (n : Int) (h0 : 0 ≤ n) (h1 : n ≤ 16777216) : finO (dateY (n / 24)) (dateM (n / 24)) (dateD (n / 24)) (n % 24) = (n, true) := by
  have g := date_ok (n / 24) (by omega) (by omega)
  have hy : dateY (n / 24) ≤ 4900 := by
    have a := num_year (dateY (n / 24)) (dateM (n / 24)) (dateD (n / 24)) ⟨g.2.2.1, g.2.2.2.1⟩ ⟨g.2.2.2.2.1, g.2.2.2.2.2.1⟩
    rw [g.2.2.2.2.2.2] at a
    have b := a.1
    unfold dby at b
    omega
  unfold finO
  rcases numO_val (dateY (n / 24)) (dateM (n / 24)) (dateD (n / 24)) with e | ⟨_, _, _, _, _, _, e⟩
  · exfalso
    unfold numO at e
    rw [if_neg (by omega), if_neg (by omega), if_neg (by omega), lenM_eq _ _ (by omega) (by omega), if_neg (by omega)] at e
    simp at e
  · rw [e, g.2.2.2.2.2.2]
    simp only [if_true]
    rw [if_neg (by omega), if_neg (by omega)]
    congr 1; omega
theorem text_bd (n : Int) (h0 : 0 ≤ n) (h1 : n ≤ 16777216) : (1000 ≤ dateY (n / 24) ∧ dateY (n / 24) ≤ 9999) ∧ (0 ≤ dateM (n / 24) ∧ dateM (n / 24) ≤ 99) ∧ (0 ≤ dateD (n / 24) ∧ dateD (n / 24) ≤ 99) ∧ (0 ≤ n % 24 ∧ n % 24 ≤ 99) := by
  have g := date_ok (n / 24) (by omega) (by omega)
  have l := len_bd (dateY (n / 24)) (dateM (n / 24))
  have b := date_bd (n / 24) (by omega) (by omega)
  omega
/-- An hour's text. -/
def txt (n : Int) : ByteArray := strOfNums (rowL (dateY (n / 24)) (dateM (n / 24)) (dateD (n / 24)) (n % 24))
open Classical in
theorem parse_txt (k : Nat) (n : Int) (hk : 2 ≤ k) (h0 : 0 ≤ n) (h1 : n ≤ 16777216) : civil_Parse.f k (txt n) = some (n, true) := by
  obtain ⟨a, b, c, d⟩ := text_bd n h0 h1
  obtain ⟨e1, e2, e3, e4, e5, e6⟩ := row_ok _ _ _ _ a b c d
  rw [civil_Parse_eq k _ hk]
  unfold txt
  rw [if_pos ⟨e1, e2⟩, e3, e4, e5, e6, finO_date n h0 h1]
theorem txt_size (n : Int) (h0 : 0 ≤ n) (h1 : n ≤ 16777216) : (txt n).size = 13 := by
  obtain ⟨a, b, c, d⟩ := text_bd n h0 h1
  exact (row_ok _ _ _ _ a b c d).1
/-- What is read, and that its text is what was read. -/
theorem parse_val (k : Nat) (s : ByteArray) (hk : 2 ≤ k) : (civil_Parse.f k s = some (0, false)) ∨ ∃ n, civil_Parse.f k s = some (n, true) ∧ 0 ≤ n ∧ n ≤ 16777216 ∧ txt n = s ∧ s.size = 13 ∧ allOk s := by
  rw [civil_Parse_eq k s hk]
  by_cases c : s.size = 13 ∧ allOk s
  · rw [if_pos c]
    have d := digs s c.2
    rcases finO_val (nY s) (nM s) (nD s) (nH s) (by unfold nH; omega) with e | ⟨n, e, n0, n1, q1, q2, q3, q4, _⟩
    · exact .inl (by rw [e])
    · refine .inr ⟨n, by rw [e], n0, n1, ?_, c.1, c.2⟩
      unfold txt
      rw [q1, q2, q3, q4]
      exact ok_row s c.1 c.2
  · rw [if_neg c]; exact .inl rfl
end Go.Proofs.Ytncmmnbpkeemmaa.Civ
