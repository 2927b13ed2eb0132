import Derived.Test.YtjegkfdcelodeaaBak
import Derived.Test.YtjegkfdcelodeaaWp
import Derived.Test.YtjegkfdcelodeaaRx
namespace Go.Proofs.Ytjegkfdcelodeaa.Pol
set_option linter.unusedVariables false
set_option linter.unusedSimpArgs false
open Go.RowKit Go.Proofs.Ytjegkfdcelodeaa.P Go.Proofs.Ytjegkfdcelodeaa.P.Wr Go.Proofs.YtjegkfdcelodeaaW.PrintWords Go.Proofs.YtjegkfdcelodeaaW.PrintLast Go.Proofs.YtjegkfdcelodeaaW.PrintMore
theorem pow9 : (128 : Int) ^ 9 = 9223372036854775808 := by decide
theorem pow_pos (i : Nat) : (0 : Int) < 128 ^ i := Int.pow_pos (by decide)
theorem lt2 (i : Nat) (x : Int) (hi : i = 9) (h : x * 128 ^ i < 18446744073709551616) : x < 2 := by
  subst hi
  rw [pow9] at h
  omega
theorem step_lt (i : Nat) (x : Int) (h0 : 0 ≤ x) (h : x * 128 ^ i < 18446744073709551616) : x / 128 * 128 ^ (i + 1) < 18446744073709551616 := by
  have e : x / 128 * 128 ^ (i + 1) = (x / 128 * 128) * 128 ^ i := by rw [Int.pow_succ, Int.mul_comm ((128 : Int) ^ i) 128, ← Int.mul_assoc]
  rw [e]
  refine Int.lt_of_le_of_lt (Int.mul_le_mul_of_nonneg_right (by omega) (Int.le_of_lt (pow_pos i))) h
theorem no10 (x : Int) (h0 : 0 < x) (h : x * 128 ^ 10 < 18446744073709551616) : False := by
  rw [show (128 : Int) ^ 10 = 1180591620717411303424 from by decide] at h
  omega
/-- A number of 64 bits is read back. -/
theorem rd_num : ∀ (d i : Nat) (n x : Int) (rest : List Int), i + d = 10 → 0 ≤ x → x * 128 ^ i < 18446744073709551616 → (i = 0 ∨ 0 < x) → rdNum d i n (numB x ++ rest) = (n + x * 128 ^ i, rest, 0)
  | 0, i, n, x, rest, hd, h0, h1, h4 => by
    obtain rfl : i = 10 := by omega
    exact (no10 x (by omega) h1).elim
  | d + 1, i, n, x, rest, hd, h0, h1, h4 => by
    rw [numB]
    by_cases c : x < 128
    · have h9 : ¬ (i = 9 ∧ 1 < x % 128) := fun h => by have := lt2 i x h.1 h1; omega
      rw [if_pos c, List.singleton_append, rdNum, if_neg h9, if_neg (by omega), if_pos c, show x % 128 = x by omega]
    · have h9 : ¬ (i = 9 ∧ 1 < (x % 128 + 128) % 128) := fun h => by have := lt2 i x h.1 h1; omega
      rw [if_neg c, List.cons_append, rdNum, if_neg h9, if_neg (by omega), if_neg (by omega), show (x % 128 + 128) % 128 = x % 128 by omega,
        rd_num d (i + 1) _ (x / 128) rest (by omega) (by omega) (step_lt i x h0 h1) (.inr (by omega))]
      have hx : x * 128 ^ i = x % 128 * 128 ^ i + x / 128 * 128 ^ (i + 1) := by
        have e1 : x = x % 128 + x / 128 * 128 := by omega
        rw [Int.pow_succ, Int.mul_comm ((128 : Int) ^ i) 128, ← Int.mul_assoc, ← Int.add_mul, ← e1]
      rw [hx, Int.add_assoc]
/-- Of fewer bytes it is not. -/
theorem rd_short : ∀ (d i : Nat) (n x : Int) (m : Nat), i + d = 10 → 0 ≤ x → x * 128 ^ i < 18446744073709551616 → (i = 0 ∨ 0 < x) → m < (numB x).length → (rdNum d i n ((numB x).take m)).2.2 = 3
  | 0, i, n, x, m, hd, h0, h1, h4, hm => by
    obtain rfl : i = 10 := by omega
    exact (no10 x (by omega) h1).elim
  | d + 1, i, n, x, 0, hd, h0, h1, h4, hm => rfl
  | d + 1, i, n, x, m + 1, hd, h0, h1, h4, hm => by
    rw [numB] at hm ⊢
    by_cases c : x < 128
    · rw [if_pos c] at hm
      simp at hm
    · rw [if_neg c] at hm ⊢
      have h9 : ¬ (i = 9 ∧ 1 < (x % 128 + 128) % 128) := fun h => by have := lt2 i x h.1 h1; omega
      rw [List.take_succ_cons, rdNum, if_neg h9, if_neg (by omega), if_neg (by omega)]
      exact rd_short d (i + 1) _ (x / 128) m (by omega) (by omega) (step_lt i x h0 h1) (.inr (by omega)) (by simpa using hm)
theorem numS_back (x : Int) (rest : List Int) (h : 0 ≤ x ∧ x < 18446744073709551616) : numS (numB x ++ rest, 0) = (x, rest, 0) := by
  unfold numS
  rw [if_pos rfl, rd_num 10 0 0 x rest rfl h.1 (by simpa using h.2) (.inl rfl)]
  simp
theorem numS_short (x : Int) (m : Nat) (h : 0 ≤ x ∧ x < 18446744073709551616) (hm : m < (numB x).length) : (numS ((numB x).take m, 0)).2.2 = 3 := by
  unfold numS
  rw [if_pos rfl]
  exact rd_short 10 0 0 x m rfl h.1 (by simpa using h.2) (.inl rfl) hm
theorem numS_stuck (l : List Int) : numS (l, 3) = (0, l, 3) := rfl
theorem unz_zz (n : Int) : unz (zz n) = n := by
  unfold unz zz
  by_cases c : 0 ≤ n
  · rw [if_pos c, if_pos (by omega)]; omega
  · rw [if_neg c, if_neg (by omega)]; omega
theorem zz_bd (n : Int) (h : -9223372036854775808 ≤ n ∧ n < 9223372036854775808) : 0 ≤ zz n ∧ zz n < 18446744073709551616 := by
  unfold zz; split <;> omega
theorem str_back (t : ByteArray) : strOfNums (bytesOf t) = t := by
  unfold strOfNums bytesOf
  rw [List.map_map]
  have e : ((fun n : Int => UInt8.ofNat n.toNat) ∘ fun b : UInt8 => (b.toNat : Int)) = id := by
    funext b
    simp
  rw [e, List.map_id]
/-- What reading a thing of kind k leaves. -/
def stepS (k lim : Int) (s : List Int × Int) : List Int × Int := if k = 1 then (numS s).2 else if k = 2 then (intS s).2 else if k = 3 then (textS lim s).2 else (boolS s).2
theorem textS_back (t : ByteArray) (rest : List Int) (h : t.size ≤ 60) : textS 60 (numB t.size ++ bytesOf t ++ rest, 0) = (t, rest, 0) := by
  have e := numS_back (t.size : Int) (bytesOf t ++ rest) (by omega)
  have hl : (bytesOf t).length = t.size := bytesOf_length t
  rw [List.append_assoc]
  rw [textS_good 60 _ (by rw [e]) (by rw [e]; unfold limV; simp; omega) (by rw [e]; simp only [List.length_append, hl]; omega), e]
  simp only [Int.toNat_natCast]
  rw [← hl, List.take_left', List.drop_left']
  · rw [str_back]
  · rfl
  · rfl
theorem boolS_back (b : Bool) (rest : List Int) : boolS ((if b then 1 else 0) :: rest, 0) = (b, rest, 0) := by
  unfold boolS takeS
  rw [if_pos ⟨rfl, by simp only [List.length_cons]; omega⟩]
  cases b <;> simp
theorem boolS_none : (boolS ([], 0)).2.2 = 3 := rfl
theorem kinds {k : Int} (hk : 1 ≤ k ∧ k ≤ 4) : k = 1 ∨ k = 2 ∨ k = 3 ∨ k = 4 := by omega
theorem back_step (p : S52) (rest : List Int) (hp : okS p) (ht : p.f4.size ≤ 60) (hk : 1 ≤ p.f0 ∧ p.f0 ≤ 4) : stepS p.f0 60 (partS p ++ rest, 0) = (rest, 0) := by
  obtain ⟨k, a, n, s, t, b⟩ := p
  rcases kinds hk with h | h | h | h
  · simp only at h; subst h
    show (numS (numB n ++ rest, 0)).2 = _
    rw [numS_back _ _ hp.1]
  · simp only at h; subst h
    show (numS (numB (zz s) ++ rest, 0)).2 = _
    rw [numS_back _ _ (zz_bd _ hp.2)]
  · simp only at h; subst h
    show (textS 60 (numB t.size ++ bytesOf t ++ rest, 0)).2 = _
    rw [textS_back _ _ ht]
  · simp only at h; subst h
    show (boolS ((if b then 1 else 0) :: rest, 0)).2 = _
    rw [boolS_back]
theorem short_step (p : S52) (m : Nat) (hp : okS p) (ht : p.f4.size ≤ 60) (hk : 1 ≤ p.f0 ∧ p.f0 ≤ 4) (hm : m < (partS p).length) : (stepS p.f0 60 ((partS p).take m, 0)).2 = 3 := by
  obtain ⟨k, a, n, s, t, b⟩ := p
  rcases kinds hk with h | h | h | h
  · simp only at h; subst h
    exact numS_short n m hp.1 hm
  · simp only at h; subst h
    exact numS_short (zz s) m (zz_bd _ hp.2) hm
  · simp only at h; subst h
    simp only at ht
    have hm' : m < (numB (t.size : Int) ++ bytesOf t).length := hm
    show (textS 60 ((numB (t.size : Int) ++ bytesOf t).take m, 0)).2.2 = 3
    have hl : (bytesOf t).length = t.size := bytesOf_length t
    by_cases c : m < (numB (t.size : Int)).length
    · have hs := numS_short (t.size : Int) m (by omega) c
      rw [List.take_append_of_le_length (by omega)]
      rw [textS_fault 60 _ (by rw [hs]; decide)]
      exact hs
    · have e : (numB (t.size : Int) ++ bytesOf t).take m = numB (t.size : Int) ++ (bytesOf t).take (m - (numB (t.size : Int)).length) := by
        rw [List.take_append]
        rw [List.take_of_length_le (by omega)]
      rw [e]
      have b := numS_back (t.size : Int) ((bytesOf t).take (m - (numB (t.size : Int)).length)) (by omega)
      rw [List.length_append] at hm'
      rw [textS_short 60 _ (by rw [b]) (by rw [b]; unfold limV; simp; omega) (by rw [b]; simp only [List.length_take]; omega)]
  · simp only at h; subst h
    have hm' : m < ([if b then 1 else 0] : List Int).length := hm
    simp only [List.length_cons, List.length_nil] at hm'
    obtain rfl : m = 0 := by omega
    rfl
theorem stuck_step (k : Int) (l : List Int) : (stepS k 60 (l, 3)).2 = 3 := by
  unfold stepS
  split
  · rw [numS_stuck]
  split
  · unfold intS; rw [numS_stuck]
  split
  · rw [textS_fault 60 _ (by rw [numS_stuck]; simp), numS_stuck]
  · unfold boolS takeS
    rw [if_neg (by simp)]
    rfl
def kindsOk (l : List S52) : Prop := ∀ p ∈ l, okS p ∧ p.f4.size ≤ 60 ∧ 1 ≤ p.f0 ∧ p.f0 ≤ 4
/-- The state of a reader of fewer bytes, behind i things. -/
def lessI (l : List S52) (less i : Nat) (s : List Int × Int) : Prop := s.2 = 3 ∨ (less ≤ (putsB (l.drop i)).length ∧ s = ((putsB (l.drop i)).take ((putsB (l.drop i)).length - less), 0))
theorem putsB_drop (l : List S52) (i : Nat) (h : i < l.length) : putsB (l.drop i) = partS l[i] ++ putsB (l.drop (i + 1)) := by
  unfold putsB
  rw [List.drop_eq_getElem_cons h, List.flatMap_cons]
theorem less_step (l : List S52) (hl : kindsOk l) (less i : Nat) (h1 : 1 ≤ less) (h : i < l.length) (s : List Int × Int) (hs : lessI l less i s) : lessI l less (i + 1) (stepS l[i].f0 60 s) := by
  obtain ⟨l0, f0⟩ := s
  have hp := hl l[i] (List.getElem_mem h)
  rcases hs with hs | ⟨hle, hs⟩
  · simp only at hs
    subst hs
    exact .inl (stuck_step _ _)
  · rw [hs, putsB_drop l i h]
    rw [putsB_drop l i h, List.length_append] at hle
    by_cases c : less ≤ (putsB (l.drop (i + 1))).length
    · right
      refine ⟨c, ?_⟩
      rw [List.length_append, show (partS l[i]).length + (putsB (l.drop (i + 1))).length - less = (partS l[i]).length + ((putsB (l.drop (i + 1))).length - less) by omega, List.take_length_add_append]
      exact back_step _ _ hp.1 hp.2.1 hp.2.2
    · left
      rw [List.length_append, List.take_append_of_le_length (by omega)]
      exact short_step _ _ hp.1 hp.2.1 hp.2.2 (by omega)
theorem less_start (l : List S52) (less : Nat) (h : less ≤ (putsB l).length) : lessI l less 0 ((putsB l).take ((putsB l).length - less), 0) := .inr ⟨by simpa using h, by simp⟩
theorem less_end (l : List S52) (less : Nat) (h1 : 1 ≤ less) (s : List Int × Int) (hs : lessI l less l.length s) : s.2 = 3 := by
  rcases hs with hs | ⟨hle, _⟩
  · exact hs
  · rw [List.drop_eq_nil_of_le (Nat.le_refl _)] at hle
    simp [putsB] at hle
    omega
theorem putsB_byte (l : List S52) (hl : kindsOk l) : ∀ x ∈ putsB l, 0 ≤ x ∧ x < 256 := by
  intro x hx
  unfold putsB at hx
  rw [List.mem_flatMap] at hx
  obtain ⟨p, hp, hx⟩ := hx
  have h := hl p hp
  obtain ⟨k, a, n, s, t, b⟩ := p
  have hb : ∀ m : Int, 0 ≤ m ∧ m < 18446744073709551616 → ∀ y ∈ numB m, 0 ≤ y ∧ y < 256 := fun m hm => numB_byte 10 m hm.1 (by rw [show (128 : Int) ^ 10 = 1180591620717411303424 from by decide]; omega) (by omega)
  have ht : t.size ≤ 60 := h.2.1
  rcases kinds h.2.2 with e | e | e | e
  · simp only at e; subst e
    exact hb n h.1.1 x hx
  · simp only at e; subst e
    exact hb _ (zz_bd s h.1.2) x hx
  · simp only at e; subst e
    have hx' : x ∈ numB (t.size : Int) ++ bytesOf t := hx
    rcases List.mem_append.1 hx' with hx' | hx'
    · exact hb _ (by omega) x hx'
    · unfold bytesOf at hx'
      obtain ⟨u, _, rfl⟩ := List.mem_map.1 hx'
      have := u.toNat_lt
      omega
  · simp only at e; subst e
    have hx' : x ∈ ([if b then 1 else 0] : List Int) := hx
    rw [List.mem_singleton] at hx'
    subst hx'
    split <;> omega
theorem stepS_sub (k lim : Int) (s : List Int × Int) : ∀ x ∈ (stepS k lim s).1, x ∈ s.1 := by
  intro x hx
  have ht : ∀ (n : Int) (s : List Int × Int), ∀ x ∈ (takeS n s).2.1, x ∈ s.1 := by
    intro n s x hx
    unfold takeS at hx
    split at hx
    · exact List.mem_of_mem_drop hx
    · exact hx
  unfold stepS at hx
  split at hx
  · exact numS_sub s x hx
  split at hx
  · exact numS_sub s x hx
  split at hx
  · unfold textS at hx
    have h2 := ht _ _ x hx
    unfold withinS at h2
    split at h2
    · exact numS_sub s x h2
    · exact numS_sub s x h2
  · unfold boolS at hx
    split at hx
    · exact ht _ _ x hx
    · split at hx
      · exact ht _ _ x hx
      · exact ht _ _ x hx
end Go.Proofs.Ytjegkfdcelodeaa.Pol
