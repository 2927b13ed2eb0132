import Derived.Test.YtncmmnbpkeemmaaPx13
import Derived.Test.YtncmmnbpkeemmaaPx14
import Derived.Test.YtncmmnbpkeemmaaStr
namespace Go.Proofs.Ytncmmnbpkeemmaa.Civ
set_option linter.unusedVariables false
set_option linter.unusedSimpArgs false
open Go.RowKit Go.Proofs.Ytncmmnbpkeemmaa.P Go.Proofs.YtncmmnbpkeemmaaW.PrintWords Go.Proofs.YtncmmnbpkeemmaaW.PrintLast Go.Proofs.YtncmmnbpkeemmaaW.PrintMore Go.Proofs.Ytncmmnbpkeemmaa.Cal

theorem nums_app (a b : List Int) : strOfNums a ++ strOfNums b = strOfNums (a ++ b) := by
  unfold strOfNums
  apply ByteArray.ext
  simp
theorem dig_step (k : Nat) (n many i : Int) (s : List Int) (h0 : 0 ≤ n) (h1 : n ≤ 1000000) (hi : 0 ≤ i ∧ i < many) (hm : many ≤ 10) (hs : s.length ≤ 20) :
    ossuaryref04_digits.l0 (k + 1) n many (strOfNums s) i = ossuaryref04_digits.l0 k (n / 10) many (strOfNums ((48 + n % 10) :: s)) (i + 1) := by
  rw [ossuaryref04_digits.l0, if_pos hi.2, tm _ _ h0, td _ _ h0, w64 (48 + n % 10) (by omega), w64 (n / 10) (by omega), w64 (i + 1) (by omega)]
  simp only [Option.bind_some]
  rw [if_pos (by rw [strOfNums_size, strOfNums_size]; simp; omega), nums_app, show (48 + n % 10) % 256 = 48 + n % 10 from by omega]
  rfl
theorem dig_end (k : Nat) (n many : Int) (s : ByteArray) : ossuaryref04_digits.l0 (k + 1) n many s many = some s := by
  rw [ossuaryref04_digits.l0, if_neg (by omega)]
theorem dig4 (k : Nat) (n : Int) (h0 : 0 ≤ n) (h1 : n ≤ 9999) (hk : 10 ≤ k) : ossuaryref04_digits.f k n 4 = some (strOfNums [48 + n / 1000, 48 + n / 100 % 10, 48 + n / 10 % 10, 48 + n % 10]) := by
  obtain ⟨k, rfl⟩ : ∃ q, k = q + 10 := ⟨k - 10, by omega⟩
  unfold ossuaryref04_digits.f
  have e : (⟨#[]⟩ : ByteArray) = strOfNums [] := rfl
  rw [e, dig_step (k + 9) n 4 0 [] (by omega) (by omega) (by omega) (by omega) (by simp), dig_step (k + 8) (n / 10) 4 _ _ (by omega) (by omega) (by omega) (by omega) (by simp), dig_step (k + 7) _ 4 _ _ (by omega) (by omega) (by omega) (by omega) (by simp), dig_step (k + 6) _ 4 _ _ (by omega) (by omega) (by omega) (by omega) (by simp)]
  rw [show (0 : Int) + 1 + 1 + 1 + 1 = 4 from rfl, dig_end]
  have e2 : n / 10 / 10 = n / 100 := by omega
  have e3 : n / 100 / 10 = n / 1000 := by omega
  rw [e2, e3, show n / 1000 % 10 = n / 1000 from by omega]
theorem dig2 (k : Nat) (n : Int) (h0 : 0 ≤ n) (h1 : n ≤ 99) (hk : 10 ≤ k) : ossuaryref04_digits.f k n 2 = some (strOfNums [48 + n / 10, 48 + n % 10]) := by
  obtain ⟨k, rfl⟩ : ∃ q, k = q + 10 := ⟨k - 10, by omega⟩
  unfold ossuaryref04_digits.f
  have e : (⟨#[]⟩ : ByteArray) = strOfNums [] := rfl
  rw [e, dig_step (k + 9) n 2 0 [] (by omega) (by omega) (by omega) (by omega) (by simp), dig_step (k + 8) (n / 10) 2 _ _ (by omega) (by omega) (by omega) (by omega) (by simp)]
  rw [show (0 : Int) + 1 + 1 = 2 from rfl, dig_end]
  rw [show n / 10 % 10 = n / 10 from by omega]
theorem ref_Text_eq (k : Nat) (n : Int) (h0 : 0 ≤ n) (h1 : n ≤ 16777216) (hk : 3100 ≤ k) : ossuaryref04_Text.f k n = some (txt n) := by
  obtain ⟨a, b, c, d⟩ := text_bd n h0 h1
  unfold ossuaryref04_Text.f
  rw [td _ _ h0, tm _ _ h0, w64 _ (by omega), ref_Date_eq k (n / 24) (by omega) (by omega) (by omega)]
  simp only [Option.bind_some]
  rw [dig4 k _ (by omega) (by omega) (by omega), dig2 k _ b.1 b.2 (by omega), dig2 k _ c.1 c.2 (by omega), dig2 k _ d.1 d.2 (by omega)]
  simp only [Option.bind_some]
  rw [if_pos (by simp only [strOfNums_size]; simp)]
  have e45 : (⟨#[45]⟩ : ByteArray) = strOfNums [45] := rfl
  have e84 : (⟨#[84]⟩ : ByteArray) = strOfNums [84] := rfl
  unfold dashes txt rowL
  rw [e45, e84]
  simp only [nums_app, List.cons_append, List.nil_append]

/-- ref.number: of letters that are none, nothing. -/
def numF : List Int → Int → Int
  | [], acc => acc
  | c :: cs, acc => numF cs (if 48 ≤ c ∧ c ≤ 57 then acc * 10 + (c - 48) else acc)
def lts (s : ByteArray) : List Int := s.data.toList.map fun c => (c.toNat : Int)
theorem lts_len (s : ByteArray) : (lts s).length = s.size := by unfold lts; rw [List.length_map, Array.length_toList]; rfl
theorem bt_lts (s : ByteArray) (i : Nat) (h : i < s.size) : bt s i = (lts s).getD i 0 ∧ 0 ≤ bt s i ∧ bt s i ≤ 255 := by
  refine ⟨?_, bt_range s i⟩
  have h' : i < s.data.toList.length := by rw [Array.length_toList]; exact h
  unfold bt lts
  rw [dif_pos (by simpa using h)]
  simp only [Int.toNat_natCast, List.getD_eq_getElem?_getD, List.getElem?_map, List.getElem?_eq_getElem h', Option.map_some, Option.getD_some]
  rfl
theorem ref_number_l (s : ByteArray) (hs : s.size ≤ 6) (n : Nat) : ∀ (k i : Nat) (acc : Int), i + n = s.size → 0 ≤ acc → acc + 1 ≤ 10 ^ i → n < k →
    ossuaryref04_number.l0 k s acc i = some (numF ((lts s).drop i) acc) ∧ 0 ≤ numF ((lts s).drop i) acc ∧ numF ((lts s).drop i) acc + 1 ≤ 10 ^ s.size := by
  induction n with
  | zero =>
    intro k i acc h1 h2 h3 hk
    obtain ⟨k, rfl⟩ : ∃ q, k = q + 1 := ⟨k - 1, by omega⟩
    have hi : i = s.size := by omega
    subst hi
    rw [ossuaryref04_number.l0, if_neg (by omega), List.drop_of_length_le (by rw [lts_len]; omega)]
    exact ⟨rfl, h2, h3⟩
  | succ n ih =>
    intro k i acc h1 h2 h3 hk
    obtain ⟨k, rfl⟩ : ∃ q, k = q + 1 := ⟨k - 1, by omega⟩
    obtain ⟨b1, b2, b3⟩ := bt_lts s i (by omega)
    have hl : i < (lts s).length := by rw [lts_len]; omega
    have hd : (lts s).drop i = bt s i :: (lts s).drop (i + 1) := by
      rw [List.drop_eq_getElem_cons hl, b1]
      simp [List.getD_eq_getElem?_getD, hl]
    have hp : (10 : Int) ^ i ≤ 1000000 := by
      have hi : i < 6 := by omega
      match i, hi with
      | 0, _ => decide
      | 1, _ => decide
      | 2, _ => decide
      | 3, _ => decide
      | 4, _ => decide
      | 5, _ => decide
    have hq : (10 : Int) ^ (i + 1) = 10 ^ i * 10 := Int.pow_succ 10 i
    have hp0 : (0 : Int) < 10 ^ i := Int.pow_pos (by decide)
    rw [ossuaryref04_number.l0, if_pos (by omega), if_pos (by omega), w64 ((i : Int) + 1) (by omega), show ((i : Int) + 1) = ((i + 1 : Nat) : Int) from by omega, hd]
    unfold numF
    by_cases c1 : bt s i ≥ 48
    · rw [if_pos c1]
      by_cases c2 : bt s i ≤ 57
      · rw [if_pos c2, if_pos ⟨c1, c2⟩, show (bt s i - 48) % 256 = bt s i - 48 from by omega, w64 (acc * 10) (by omega), w64 _ (by omega)]
        exact ih k (i + 1) _ (by omega) (by omega) (by omega) (by omega)
      · rw [if_neg c2, if_neg (fun h => c2 h.2)]
        exact ih k (i + 1) _ (by omega) (by omega) (by omega) (by omega)
    · rw [if_neg c1, if_neg (fun h => c1 h.1)]
      exact ih k (i + 1) _ (by omega) (by omega) (by omega) (by omega)
def numV (s : ByteArray) : Int := numF (lts s) 0
theorem ref_number_eq (k : Nat) (s : ByteArray) (hs : s.size ≤ 6) (hk : 10 ≤ k) : ossuaryref04_number.f k s = some (numV s) ∧ 0 ≤ numV s ∧ numV s + 1 ≤ 10 ^ s.size := by
  unfold ossuaryref04_number.f numV
  have := ref_number_l s hs s.size k 0 0 (by omega) (by omega) (by decide) (by omega)
  simpa using this
theorem ext_lts (s : ByteArray) (a b : Nat) : lts (s.extract a b) = ((lts s).take b).drop a := by
  unfold lts
  rw [ByteArray.data_extract, Array.toList_extract, List.extract_eq_take_drop, List.map_take, List.map_drop, List.drop_take]
theorem ext_size (s : ByteArray) (a b : Nat) (h : b ≤ s.size) : (s.extract a b).size = b - a := by
  rw [ByteArray.size_extract, Nat.min_eq_left h]
theorem byt_lts (s : ByteArray) (i : Nat) (h : i < s.size) : (lts s).getD i 0 = byt s i := by
  have h' : i < s.data.toList.length := by rw [Array.length_toList]; exact h
  unfold byt lts
  simp only [List.getD_eq_getElem?_getD, List.getElem?_map, List.getElem?_eq_getElem h', Option.map_some, Option.getD_some]
theorem lts13 (s : ByteArray) (h : s.size = 13) : lts s = [byt s 0, byt s 1, byt s 2, byt s 3, byt s 4, byt s 5, byt s 6, byt s 7, byt s 8, byt s 9, byt s 10, byt s 11, byt s 12] := by
  apply List.ext_getElem (by rw [lts_len, h]; rfl)
  intro i h1 h2
  have hi : i < 13 := h2
  have b := byt_lts s i (by omega)
  rw [List.getD_eq_getElem?_getD, List.getElem?_eq_getElem h1, Option.getD_some] at b
  rw [b]
  match i, hi with
  | 0, _ => rfl
  | 1, _ => rfl
  | 2, _ => rfl
  | 3, _ => rfl
  | 4, _ => rfl
  | 5, _ => rfl
  | 6, _ => rfl
  | 7, _ => rfl
  | 8, _ => rfl
  | 9, _ => rfl
  | 10, _ => rfl
  | 11, _ => rfl
  | 12, _ => rfl
theorem numV_ok (s : ByteArray) (hs : s.size = 13) (h : allOk s) : numV (s.extract 0 4) = nY s ∧ numV (s.extract 5 7) = nM s ∧ numV (s.extract 8 10) = nD s ∧ numV (s.extract 11 13) = nH s := by
  obtain ⟨⟨a0, b0⟩, ⟨a1, b1⟩, ⟨a2, b2⟩, ⟨a3, b3⟩, ⟨a5, b5⟩, ⟨a6, b6⟩, ⟨a8, b8⟩, ⟨a9, b9⟩, ⟨a11, b11⟩, ⟨a12, b12⟩⟩ := digs s h
  unfold numV nY nM nD nH
  rw [ext_lts, ext_lts, ext_lts, ext_lts, lts13 s hs]
  simp only [List.take, List.drop, numF]
  unfold dg at *
  refine ⟨?_, ?_, ?_, ?_⟩
  · rw [if_pos (by omega), if_pos (by omega), if_pos (by omega), if_pos (by omega)]; omega
  · rw [if_pos (by omega), if_pos (by omega)]; omega
  · rw [if_pos (by omega), if_pos (by omega)]; omega
  · rw [if_pos (by omega), if_pos (by omega)]; omega
theorem ref_Parse_core (k : Nat) (s : ByteArray) (hs : s.size = 13) (hk : 4500 ≤ k) :
    ossuaryref04_Parse.f k s = (if (numO (numV (s.extract 0 4)) (numV (s.extract 5 7)) (numV (s.extract 8 10))).2 = true then ossuaryref04_Parse.j0 k s (numO (numV (s.extract 0 4)) (numV (s.extract 5 7)) (numV (s.extract 8 10))).1 (numV (s.extract 11 13)) (decide (numV (s.extract 11 13) > 23)) else ossuaryref04_Parse.j0 k s (numO (numV (s.extract 0 4)) (numV (s.extract 5 7)) (numV (s.extract 8 10))).1 (numV (s.extract 11 13)) true) := by
  unfold ossuaryref04_Parse.f
  rw [if_pos (by omega), if_pos (by decide), if_pos (by omega), (ref_number_eq k (s.extract 0 4) (by rw [ext_size _ _ _ (by omega)]; omega) (by omega)).1]
  simp only [Option.bind_some]
  rw [if_pos (by decide), if_pos (by omega), (ref_number_eq k (s.extract 5 7) (by rw [ext_size _ _ _ (by omega)]; omega) (by omega)).1]
  simp only [Option.bind_some]
  rw [if_pos (by decide), if_pos (by omega), (ref_number_eq k (s.extract 8 10) (by rw [ext_size _ _ _ (by omega)]; omega) (by omega)).1]
  simp only [Option.bind_some]
  rw [ref_Number_eq k _ _ _ (by omega)]
  simp only [Option.bind_some]
  rw [if_pos (by decide), if_pos (by omega), (ref_number_eq k (s.extract 11 13) (by rw [ext_size _ _ _ (by omega)]; omega) (by omega)).1]
  simp only [Option.bind_some]
theorem str_ext (a b : ByteArray) (h : a.toList = b.toList) : a = b := by
  rw [ByteArray.toList_eq, ByteArray.toList_eq] at h
  apply ByteArray.ext
  exact Array.toList_inj.mp h
theorem ref_Parse_eq (k : Nat) (s : ByteArray) (hk : 4500 ≤ k) : ossuaryref04_Parse.f k s = civil_Parse.f 2 s := by
  classical
  rw [civil_Parse_eq 2 s (by omega)]
  by_cases c : s.size = 13
  · rw [ref_Parse_core k s c hk]
    obtain ⟨k, rfl⟩ : ∃ q, k = q + 1 := ⟨k - 1, by omega⟩
    have p4 := (ref_number_eq 10 (s.extract 11 13) (by rw [ext_size _ _ _ (by omega)]; omega) (by omega)).2
    generalize hY : numV (s.extract 0 4) = Y at *
    generalize hM : numV (s.extract 5 7) = M at *
    generalize hD : numV (s.extract 8 10) = D at *
    generalize hH : numV (s.extract 11 13) = H at *
    have key : (if (numO Y M D).2 = true then ossuaryref04_Parse.j0 (k + 1) s (numO Y M D).1 H (decide (H > 23)) else ossuaryref04_Parse.j0 (k + 1) s (numO Y M D).1 H true) =
        if (finO Y M D H).2 = true then (if txt (finO Y M D H).1 = s then some (finO Y M D H) else some (0, false)) else some (0, false) := by
      rcases numO_val Y M D with e | ⟨y0, y1, m0, m1, d0, d1, e⟩
      · have f : finO Y M D H = (0, false) := by unfold finO; rw [e]; rfl
        rw [f, e]
        simp [ossuaryref04_Parse.j0]
      · have b := num_bd Y M D ⟨y0, y1⟩ ⟨m0, m1⟩ ⟨d0, d1⟩
        rw [e]
        simp only [if_true]
        by_cases c1 : H > 23
        · have f : finO Y M D H = (0, false) := by unfold finO; rw [e]; simp only [if_true]; rw [if_pos (by omega)]
          rw [f, decide_eq_true c1]
          simp [ossuaryref04_Parse.j0]
        · rw [decide_eq_false c1, ossuaryref04_Parse.j0, if_neg (by decide), w64 (24 * num Y M D) (by omega), w64 (24 * num Y M D + H) (by omega)]
          by_cases c2 : 24 * num Y M D + H > 16777216
          · have f : finO Y M D H = (0, false) := by unfold finO; rw [e]; simp only [if_true]; rw [if_neg (by omega), if_pos (by omega)]
            rw [f, if_pos c2]; simp
          · have f : finO Y M D H = (24 * num Y M D + H, true) := by unfold finO; rw [e]; simp only [if_true]; rw [if_neg (by omega), if_neg (by omega)]; congr 1; omega
            rw [f, if_neg c2, ref_Text_eq k _ (by omega) (by omega) (by omega)]
            simp only [Option.bind_some, if_true]
            by_cases c3 : (txt (24 * num Y M D + H)).toList = s.toList
            · rw [if_pos c3, if_pos (str_ext _ _ c3)]
            · rw [if_neg c3, if_neg (fun h => c3 (by rw [h]))]
    by_cases a : allOk s
    · rw [if_pos (show s.size = 13 ∧ allOk s from ⟨c, a⟩), key]
      obtain ⟨q1, q2, q3, q4⟩ := numV_ok s c a
      rw [hY] at q1; rw [hM] at q2; rw [hD] at q3; rw [hH] at q4
      subst q1 q2 q3 q4
      rcases finO_val (nY s) (nM s) (nD s) (nH s) p4.1 with f | ⟨n, f, n0, n1, r1, r2, r3, r4, _⟩
      · rw [f]; simp
      · rw [f]
        have t : txt n = s := by
          unfold txt
          rw [r1, r2, r3, r4]
          exact ok_row s c a
        simp [t]
    · rw [if_neg (show ¬ (s.size = 13 ∧ allOk s) from fun h => a h.2), key]
      rcases finO_val Y M D H p4.1 with f | ⟨n, f, n0, n1, _⟩
      · rw [f]; simp
      · rw [f]
        simp only [if_true]
        rw [if_neg]
        intro h
        obtain ⟨x1, x2, x3, x4⟩ := text_bd n n0 n1
        have := (row_ok _ _ _ _ x1 x2 x3 x4).2.1
        change allOk (txt n) at this
        rw [h] at this
        exact a this
  · unfold ossuaryref04_Parse.f
    rw [if_neg (by omega), if_neg (fun h => c h.1)]
end Go.Proofs.Ytncmmnbpkeemmaa.Civ
