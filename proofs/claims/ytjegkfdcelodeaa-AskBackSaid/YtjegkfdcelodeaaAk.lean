import Derived.Test.YtjegkfdcelodeaaAs4
import Derived.Test.YtjegkfdcelodeaaAs6
namespace Go.Proofs.Ytjegkfdcelodeaa.P
set_option linter.unusedVariables false
set_option linter.unusedSimpArgs false
open Go.RowKit Go.Proofs.YtjegkfdcelodeaaW.PrintWords Go.Proofs.YtjegkfdcelodeaaW.PrintLast Go.Proofs.YtjegkfdcelodeaaW.PrintMore
namespace As
open Wr
namespace Back
/-! The plain law of AskBack: reading undoes encoding, and encoding reading. -/
theorem pow9 : (128 : Int) ^ 9 = 9223372036854775808 := by decide
theorem pow_pos (i : Nat) : (0 : Int) < 128 ^ i := Int.pow_pos (by decide)
theorem lt2 (i : Nat) (x : Int) (hi : i = 9) (h : x * 128 ^ i < 18446744073709551616) : x < 2 := by
  subst hi
  rw [pow9] at h
  omega
theorem step_lt (i : Nat) (x : Int) (h0 : 0 ≤ x) (h : x * 128 ^ i < 18446744073709551616) : x / 128 * 128 ^ (i + 1) < 18446744073709551616 := by
  have e : x / 128 * 128 ^ (i + 1) = (x / 128 * 128) * 128 ^ i := by rw [Int.pow_succ, Int.mul_comm ((128 : Int) ^ i) 128, ← Int.mul_assoc]
  rw [e]
  refine Int.lt_of_le_of_lt (Int.mul_le_mul_of_nonneg_right (by omega) (Int.le_of_lt (pow_pos i))) h
theorem no10 (x : Int) (h0 : 0 < x) (h : x * 128 ^ 10 < 18446744073709551616) : False := by
  rw [show (128 : Int) ^ 10 = 1180591620717411303424 from by decide] at h
  omega
/-- A number of 64 bits is read back. -/
theorem rd_num : ∀ (d i : Nat) (n x : Int) (rest : List Int), i + d = 10 → 0 ≤ x → x * 128 ^ i < 18446744073709551616 → (i = 0 ∨ 0 < x) → rdNum d i n (numB x ++ rest) = (n + x * 128 ^ i, rest, 0)
  | 0, i, n, x, rest, hd, h0, h1, h4 => by
    obtain rfl : i = 10 := by omega
    exact (no10 x (by omega) h1).elim
  | d + 1, i, n, x, rest, hd, h0, h1, h4 => by
    rw [numB]
    by_cases c : x < 128
    · have h9 : ¬ (i = 9 ∧ 1 < x % 128) := fun h => by have := lt2 i x h.1 h1; omega
      rw [if_pos c, List.singleton_append, rdNum, if_neg h9, if_neg (by omega), if_pos c, show x % 128 = x by omega]
    · have h9 : ¬ (i = 9 ∧ 1 < (x % 128 + 128) % 128) := fun h => by have := lt2 i x h.1 h1; omega
      rw [if_neg c, List.cons_append, rdNum, if_neg h9, if_neg (by omega), if_neg (by omega), show (x % 128 + 128) % 128 = x % 128 by omega,
        rd_num d (i + 1) _ (x / 128) rest (by omega) (by omega) (step_lt i x h0 h1) (.inr (by omega))]
      have hx : x * 128 ^ i = x % 128 * 128 ^ i + x / 128 * 128 ^ (i + 1) := by
        have e1 : x = x % 128 + x / 128 * 128 := by omega
        rw [Int.pow_succ, Int.mul_comm ((128 : Int) ^ i) 128, ← Int.mul_assoc, ← Int.add_mul, ← e1]
      rw [hx, Int.add_assoc]
theorem numS_back (x : Int) (rest : List Int) (h : 0 ≤ x ∧ x < 18446744073709551616) : numS (numB x ++ rest, 0) = (x, rest, 0) := by
  unfold numS
  rw [if_pos rfl, rd_num 10 0 0 x rest rfl h.1 (by simpa using h.2) (.inl rfl)]
  simp
theorem str_back (t : ByteArray) : strOfNums (bytesOf t) = t := by
  unfold strOfNums bytesOf
  rw [List.map_map]
  have e : ((fun n : Int => UInt8.ofNat n.toNat) ∘ fun b : UInt8 => (b.toNat : Int)) = id := by
    funext b
    simp
  rw [e, List.map_id]
theorem textS_back (t : ByteArray) (rest : List Int) (h : t.size ≤ 16) : textS 16 (numB t.size ++ bytesOf t ++ rest, 0) = (t, rest, 0) := by
  have e := numS_back (t.size : Int) (bytesOf t ++ rest) (by omega)
  have hl : (bytesOf t).length = t.size := bytesOf_length t
  rw [List.append_assoc]
  rw [textS_good 16 _ (by rw [e]) (by rw [e]; unfold limV; simp; omega) (by rw [e]; simp only [List.length_append, hl]; omega), e]
  simp only [Int.toNat_natCast]
  rw [← hl, List.take_left', List.drop_left']
  · rw [str_back]
  · rfl
  · rfl
theorem boolS_back (b : Bool) (rest : List Int) : boolS ((if b then 1 else 0) :: rest, 0) = (b, rest, 0) := by
  unfold boolS takeS
  rw [if_pos ⟨rfl, by simp only [List.length_cons]; omega⟩]
  cases b <;> simp
/-- What was read as a number is that number's bytes. -/
theorem rd_inv : ∀ (d i : Nat) (n v : Int) (l t : List Int), (∀ x ∈ l, 0 ≤ x ∧ x < 256) → rdNum d i n l = (v, t, 0) → ∃ x, 0 ≤ x ∧ (0 < i → 0 < x) ∧ v = n + x * 128 ^ i ∧ l = numB x ++ t
  | 0, i, n, v, l, t, hl, h => by rw [rdNum] at h; simp at h
  | d + 1, i, n, v, [], t, hl, h => by rw [rdNum] at h; simp at h
  | d + 1, i, n, v, c :: r, t, hl, h => by
    have hc := hl c (by simp)
    rw [rdNum] at h
    split at h
    · simp at h
    · split at h
      · simp at h
      · rename_i h2
        split at h
        · rename_i h3
          injection h with e1 e2
          injection e2 with e2 e3
          subst e2
          have hm : c % 128 = c := by omega
          rw [hm] at e1 h2
          refine ⟨c, hc.1, fun hi => by omega, e1.symm, ?_⟩
          rw [numB, if_pos h3]
          rfl
        · rename_i h3
          obtain ⟨y, y0, y1, y2, y3⟩ := rd_inv d (i + 1) _ v r t (fun x hx => hl x (by simp [hx])) h
          have y4 := y1 (by omega)
          refine ⟨c % 128 + y * 128, by omega, fun _ => by omega, ?_, ?_⟩
          · rw [y2, Int.pow_succ, Int.mul_comm ((128 : Int) ^ i) 128, ← Int.mul_assoc, Int.add_mul, Int.add_assoc]
          · rw [numB, if_neg (by omega), y3, show (c % 128 + y * 128) % 128 = c % 128 by omega, show (c % 128 + y * 128) / 128 = y by omega, show c % 128 + 128 = c by omega]
            rfl
theorem numS_inv {s : List Int × Int} (hs : bytesP s) (h : (numS s).2.2 = 0) : s.2 = 0 ∧ 0 ≤ (numS s).1 ∧ s.1 = numB (numS s).1 ++ (numS s).2.1 := by
  by_cases c : s.2 = 0
  · have e : numS s = rdNum 10 0 0 s.1 := by unfold numS; rw [if_pos c]
    rw [e] at h ⊢
    obtain ⟨x, x0, -, x2, x3⟩ := rd_inv 10 0 0 _ s.1 _ hs (Prod.ext rfl (Prod.ext rfl h))
    have e2 : (rdNum 10 0 0 s.1).1 = x := Eq.trans x2 (by simp)
    rw [e2]
    exact ⟨c, x0, x3⟩
  · unfold numS at h
    rw [if_neg c] at h
    exact absurd h c
theorem boolS_inv {s : List Int × Int} (hs : bytesP s) (h : (boolS s).2.2 = 0) : s.2 = 0 ∧ s.1 = (if (boolS s).1 then 1 else 0) :: (boolS s).2.1 := by
  obtain ⟨l, f⟩ := s
  by_cases c : f = 0
  · subst c
    match l with
    | [] => exact absurd h (by decide)
    | b :: r =>
      have hb := hs b (by simp)
      have e : boolS (b :: r, 0) = (b == 1, if 1 < b then badS (r, 0) else (r, 0)) := by
        unfold boolS takeS
        rw [if_pos ⟨rfl, by simp only [List.length_cons]; omega⟩]
        rfl
      rw [e] at h ⊢
      by_cases c1 : 1 < b
      · rw [if_pos c1] at h
        simp [badS] at h
      · rw [if_neg c1]
        refine ⟨rfl, ?_⟩
        have : b = 0 ∨ b = 1 := by omega
        rcases this with rfl | rfl <;> simp
  · have e : takeS 1 (l, f) = ([], l, f) := by
      unfold takeS
      rw [if_neg (fun k => c k.1)]
      simp [c]
    unfold boolS at h
    rw [e] at h
    exact absurd h c
theorem bytes_str : ∀ (xs : List Int), (∀ x ∈ xs, 0 ≤ x ∧ x < 256) → bytesOf (strOfNums xs) = xs := by
  intro xs h
  unfold bytesOf
  rw [strOfNums_data, List.map_map]
  conv => rhs; rw [← List.map_id xs]
  refine List.map_congr_left fun x hx => ?_
  have := h x hx
  simp
  omega
theorem textS_inv {s : List Int × Int} (hs : bytesP s) (h : (textS 16 s).2.2 = 0) : s.2 = 0 ∧ s.1 = numB ((textS 16 s).1.size : Int) ++ bytesOf (textS 16 s).1 ++ (textS 16 s).2.1 := by
  by_cases c1 : (numS s).2.2 = 0
  · by_cases c2 : limV 16 < (numS s).1
    · rw [textS_long 16 s c1 c2] at h
      simp at h
    · by_cases c3 : (numS s).1 ≤ (numS s).2.1.length
      · rw [textS_good 16 s c1 c2 c3]
        obtain ⟨i1, i2, i3⟩ := numS_inv hs c1
        have hb := bytes_num hs
        have hl : ((numS s).2.1.take (numS s).1.toNat).length = (numS s).1.toNat := by rw [List.length_take]; omega
        simp only
        rw [strOfNums_size, hl, bytes_str _ (fun x hx => hb x (List.mem_of_mem_take hx)), List.append_assoc, List.take_append_drop]
        rw [show (((numS s).1.toNat : Nat) : Int) = (numS s).1 by omega]
        exact ⟨i1, i3⟩
      · rw [textS_short 16 s c1 c2 c3] at h
        simp at h
  · rw [textS_fault 16 s c1] at h
    exact absurd h c1
/-- One dimension. -/
theorem dim_inv {s : List Int × Int} (hs : bytesP s) (h : (dT s).2.2 = 0) : s.2 = 0 ∧ s.1 = ([if (dG s).1 then 1 else 0] ++ [if (dH s).1 then 1 else 0] ++ (if (dH s).1 then numB ((dT s).1.size : Int) ++ bytesOf (dT s).1 else [])) ++ (dT s).2.1 := by
  have hG := bytes_G hs
  have hH := bytes_H hs
  cases c : (dH s).1
  · have e : dT s = ({ data := #[] }, (dH s).2) := by unfold dT; rw [c]; rfl
    rw [e] at h ⊢
    have iH : (dG s).2.2 = 0 ∧ (dG s).2.1 = (if (dH s).1 then 1 else 0) :: (dH s).2.1 := boolS_inv hG h
    have iG : s.2 = 0 ∧ s.1 = (if (dG s).1 then 1 else 0) :: (dG s).2.1 := boolS_inv hs iH.1
    refine ⟨iG.1, iG.2.trans ?_⟩
    rw [iH.2, c]
    simp
  · have e : dT s = textS 16 (dH s).2 := by unfold dT; rw [c]; rfl
    rw [e] at h ⊢
    have iT := textS_inv hH h
    have iH : (dG s).2.2 = 0 ∧ (dG s).2.1 = (if (dH s).1 then 1 else 0) :: (dH s).2.1 := boolS_inv hG iT.1
    have iG : s.2 = 0 ∧ s.1 = (if (dG s).1 then 1 else 0) :: (dG s).2.1 := boolS_inv hs iH.1
    refine ⟨iG.1, iG.2.trans ?_⟩
    rw [iH.2, iT.2, c]
    simp
theorem dims_inv {s : List Int × Int} (hs : bytesP s) (a b : Int) (n : Nat) : ∀ i, i ≤ n → (dS s i).2 = 0 → s.2 = 0 ∧ s.1 = dimsB (qR s a b n) i ++ (dS s i).1
  | 0, _, h => ⟨h, rfl⟩
  | i + 1, hi, h => by
    obtain ⟨e1, e2⟩ := dim_inv (bytes_S hs i) (show (dT (dS s i)).2.2 = 0 from h)
    obtain ⟨e3, e4⟩ := dims_inv hs a b n i (by omega) e1
    refine ⟨e3, e4.trans ?_⟩
    rw [e2, ← List.append_assoc]
    have e5 : dimsB (qR s a b n) (i + 1) = dimsB (qR s a b n) i ++ dimB (qR s a b n) i := rfl
    rw [e5]
    have e6 : dimB (qR s a b n) i = [if (dG (dS s i)).1 then 1 else 0] ++ [if (dH (dS s i)).1 then 1 else 0] ++ (if (dH (dS s i)).1 then numB ((dT (dS s i)).1.size : Int) ++ bytesOf (dT (dS s i)).1 else []) := by
      have : decide (i < n) = true := decide_eq_true (by omega)
      have h2 : i < n := by omega
      simp [dimB, qR, this, h2]
    rw [e6]
    rfl
/-- What is read has just those bytes. -/
theorem read_inv {l : List Int} {dims : Int} {p : Qy} (hl : bytesP (l, 0)) (h : readV l dims = (p, 0)) : chkQ p dims = 0 ∧ encV p dims = l := by
  unfold readV at h
  split at h
  · injection h with _ h; omega
  · unfold endV at h
    split at h
    · rename_i c; injection h with _ h; exact absurd h c
    · rename_i c1
      split at h
      · injection h with _ h; omega
      · rename_i c2
        split at h
        · injection h with _ h; omega
        · split at h
          · rename_i c; injection h with _ h; exact absurd h c
          · rename_i c4
            injection h with h _
            subst h
            have k : chkQ (qR (numS (numS (l, 0)).2).2 (numS (l, 0)).1 (numS (numS (l, 0)).2).1 dims.toNat) dims = 0 := by omega
            refine ⟨k, ?_⟩
            unfold encV
            rw [if_pos k]
            have c1' : (dS (numS (numS (l, 0)).2).2 dims.toNat).2 = 0 := by omega
            obtain ⟨e1, e2⟩ := dims_inv (bytes_num (bytes_num hl)) (numS (l, 0)).1 (numS (numS (l, 0)).2).1 dims.toNat dims.toNat (Nat.le_refl _) c1'
            obtain ⟨e3, -, e4⟩ := numS_inv (bytes_num hl) e1
            obtain ⟨-, -, e5⟩ := numS_inv hl e3
            have e6 : (dS (numS (numS (l, 0)).2).2 dims.toNat).1 = [] := List.eq_nil_of_length_eq_zero (by omega)
            rw [e6, List.append_nil] at e2
            have e7 : l = numB (numS (l, 0)).1 ++ (numS (l, 0)).2.1 := e5
            unfold encB
            rw [← e2, List.append_assoc]
            show numB (numS (l, 0)).1 ++ (numB (numS (numS (l, 0)).2).1 ++ (numS (numS (l, 0)).2).2.1) = l
            rw [← e4]
            exact e7.symm
theorem read_bad {l : List Int} {dims : Int} {p : Qy} {f : Int} (h : readV l dims = (p, f)) (hf : f ≠ 0) : p = zQ := by
  unfold readV at h
  split at h
  · injection h with h _; exact h.symm
  · unfold endV at h
    split at h
    · injection h with h _; exact h.symm
    · split at h
      · injection h with h _; exact h.symm
      · split at h
        · injection h with h _; exact h.symm
        · split at h
          · injection h with h _; exact h.symm
          · injection h with _ h; exact absurd h.symm hf
/-- A query that is right is read as it was. -/
theorem dim_back (q : Qy) (i : Nat) (rest : List Int) (h : (q.T i).size ≤ 16) (hT : q.H i = false → q.T i = { data := #[] }) : (dG (dimB q i ++ rest, 0)).1 = q.G i ∧ (dH (dimB q i ++ rest, 0)).1 = q.H i ∧ dT (dimB q i ++ rest, 0) = (q.T i, rest, 0) := by
  have e1 : dG (dimB q i ++ rest, 0) = (q.G i, [if q.H i then 1 else 0] ++ (if q.H i then numB (q.T i).size ++ bytesOf (q.T i) else []) ++ rest, 0) := by
    have := boolS_back (q.G i) ([if q.H i then 1 else 0] ++ (if q.H i then numB (q.T i).size ++ bytesOf (q.T i) else []) ++ rest)
    unfold dG dimB
    simp only [List.append_assoc, List.cons_append, List.nil_append] at this ⊢
    exact this
  have e2 : dH (dimB q i ++ rest, 0) = (q.H i, (if q.H i then numB (q.T i).size ++ bytesOf (q.T i) else []) ++ rest, 0) := by
    unfold dH
    rw [e1]
    have := boolS_back (q.H i) ((if q.H i then numB (q.T i).size ++ bytesOf (q.T i) else []) ++ rest)
    simp only [List.append_assoc, List.cons_append, List.nil_append] at this ⊢
    exact this
  refine ⟨by rw [e1], by rw [e2], ?_⟩
  unfold dT
  rw [e2]
  cases c : q.H i
  · simp [hT c]
  · simp only [if_true]
    exact textS_back (q.T i) rest h
theorem dims_back (q : Qy) : ∀ (i : Nat) (rest : List Int), (∀ j, j < i → (q.T j).size ≤ 16 ∧ (q.H j = false → q.T j = { data := #[] })) → dS (dimsB q i ++ rest, 0) i = (rest, 0)
  | 0, rest, _ => rfl
  | i + 1, rest, h => by
    have e : dimsB q (i + 1) ++ rest = dimsB q i ++ (dimB q i ++ rest) := by rw [← List.append_assoc]; rfl
    rw [e]
    show (dT (dS _ i)).2 = _
    rw [dims_back q i _ (fun j hj => h j (by omega)), (dim_back q i rest (h i (by omega)).1 (h i (by omega)).2).2.2]
theorem dims_split (q : Qy) : ∀ (n j : Nat), j < n → ∃ t, dimsB q n = dimsB q (j + 1) ++ t
  | 0, j, h => absurd h (by omega)
  | n + 1, j, h => by
    by_cases c : j = n
    · subst c; exact ⟨[], by rw [List.append_nil]⟩
    · obtain ⟨t, e⟩ := dims_split q n j (by omega)
      refine ⟨t ++ dimB q n, ?_⟩
      rw [← List.append_assoc, ← e]
      rfl
theorem empty_of (t : ByteArray) (h : t.toList.isEmpty = true) : t = { data := #[] } := by
  have h1 : t.toList = [] := List.isEmpty_iff.1 h
  rw [ByteArray.toList_eq] at h1
  obtain ⟨⟨d⟩⟩ := t
  simp at h1
  subst h1
  rfl
theorem okQ.none {q : Qy} {dims : Int} (h : okQ q dims) {i : Nat} (hi : i < 4) (hH : q.H i = false) : q.T i = { data := #[] } := by
  have := h.bad i hi
  unfold badQ at this
  rw [hH] at this
  simp only [Bool.or_false, Bool.not_false, Bool.and_true, Bool.or_eq_false_iff] at this
  exact empty_of _ (by have := this.1.2; simpa using this)
theorem okQ.out {q : Qy} {dims : Int} (h : okQ q dims) {i : Nat} (hi : i < 4) (hd : dims ≤ i) : q.G i = false ∧ q.H i = false := by
  have := h.bad i hi
  unfold badQ at this
  have hd' : decide (dims ≤ (i : Int)) = true := decide_eq_true hd
  rw [hd'] at this
  simp only [Bool.true_and, Bool.or_eq_false_iff] at this
  exact this.1.1
theorem chk_cells {p q : Qy} (h : p.cells = q.cells) (dims : Int) : chkQ p dims = chkQ q dims := by
  unfold Qy.cells at h
  simp only [Array.mk.injEq, List.cons.injEq, Value.int.injEq, Value.bool.injEq, Value.string.injEq, true_and, and_true] at h
  obtain ⟨h0, h1, g0, g1, g2, g3, k0, k1, k2, k3, t0, t1, t2, t3⟩ := h
  have e : ∀ i ∈ List.range 4, badQ p dims i = badQ q dims i := by
    intro i hi
    rcases lt4 (List.mem_range.1 hi) with rfl | rfl | rfl | rfl <;> simp [badQ, g0, g1, g2, g3, k0, k1, k2, k3, t0, t1, t2, t3]
  have e2 : (List.range 4).any (badQ p dims) = (List.range 4).any (badQ q dims) := by
    rw [show List.range 4 = [0, 1, 2, 3] from rfl]
    simp only [List.any_cons, List.any_nil, e 0 (by decide), e 1 (by decide), e 2 (by decide), e 3 (by decide)]
  unfold chkQ
  rw [h0, h1, e2]
theorem read_back {q : Qy} {dims : Int} (h : chkQ q dims = 0) : ∃ p, readV (encV q dims) dims = (p, 0) ∧ p.cells = q.cells := by
  have ho := chk_ok h
  have hd := ho.d
  obtain ⟨n, rfl⟩ : ∃ n : Nat, dims = n := ⟨dims.toNat, by omega⟩
  have ha := ho.a; have hab := ho.ab; have hb := ho.b
  have hT : ∀ j, j < 4 → (q.T j).size ≤ 16 ∧ (q.H j = false → q.T j = { data := #[] }) := fun j hj => ⟨ho.size hj, fun hH => okQ.none ho hj hH⟩
  have e1 : numS (encB q n, 0) = (q.a, numB q.b ++ dimsB q n, 0) := by
    unfold encB
    rw [List.append_assoc]
    exact numS_back q.a _ (by omega)
  have e2 : numS (numB q.b ++ dimsB q n, 0) = (q.b, dimsB q n, 0) := numS_back q.b _ (by omega)
  have e3 : dS (dimsB q n, 0) n = ([], 0) := by
    have := dims_back q n [] (fun j hj => hT j (by omega))
    rwa [List.append_nil] at this
  have e4 : ∀ j, j < n → (dG (dS (dimsB q n, 0) j)).1 = q.G j ∧ (dH (dS (dimsB q n, 0) j)).1 = q.H j ∧ (dT (dS (dimsB q n, 0) j)).1 = q.T j := by
    intro j hj
    obtain ⟨t, et⟩ := dims_split q n j hj
    have e5 : dimsB q n = dimsB q j ++ (dimB q j ++ t) := by rw [et, ← List.append_assoc]; rfl
    rw [e5, dims_back q j _ (fun k hk => hT k (by omega))]
    obtain ⟨i1, i2, i3⟩ := dim_back q j t (hT j (by omega)).1 (hT j (by omega)).2
    exact ⟨i1, i2, by rw [i3]⟩
  have ec : (qR (dimsB q n, 0) q.a q.b n).cells = q.cells := by
    have eG : ∀ j, j < 4 → (qR (dimsB q n, 0) q.a q.b n).G j = q.G j := by
      intro j hj
      by_cases c : j < n
      · show (decide (j < n) && _) = _
        rw [decide_eq_true c, (e4 j c).1]; rfl
      · show (decide (j < n) && _) = _
        rw [decide_eq_false c, (okQ.out ho hj (by omega)).1]; rfl
    have eH : ∀ j, j < 4 → (qR (dimsB q n, 0) q.a q.b n).H j = q.H j := by
      intro j hj
      by_cases c : j < n
      · show (decide (j < n) && _) = _
        rw [decide_eq_true c, (e4 j c).2.1]; rfl
      · show (decide (j < n) && _) = _
        rw [decide_eq_false c, (okQ.out ho hj (by omega)).2]; rfl
    have eT : ∀ j, j < 4 → (qR (dimsB q n, 0) q.a q.b n).T j = q.T j := by
      intro j hj
      show (if j < n then _ else _) = _
      by_cases c : j < n
      · rw [if_pos c, (e4 j c).2.2]
      · rw [if_neg c, okQ.none ho hj (okQ.out ho hj (by omega)).2]
    unfold Qy.cells
    rw [eG 0 (by omega), eG 1 (by omega), eG 2 (by omega), eG 3 (by omega), eH 0 (by omega), eH 1 (by omega), eH 2 (by omega), eH 3 (by omega), eT 0 (by omega), eT 1 (by omega), eT 2 (by omega), eT 3 (by omega)]
    rfl
  refine ⟨qR (dimsB q n, 0) q.a q.b n, ?_, ec⟩
  have hk : chkQ (qR (dimsB q n, 0) q.a q.b n) n = 0 := (chk_cells ec n).trans h
  unfold encV readV
  rw [if_pos h, if_neg (by omega), Int.toNat_natCast, e1]
  simp only
  rw [e2]
  simp only
  rw [e3]
  unfold endV
  rw [if_neg (by simp), if_neg (by simp), if_neg (by omega), if_neg (by omega)]
/-- What is cut matches nothing below, and else what it did. -/
def cutV (q : Qy) (from_ : Int) : Qy := ⟨max from_ q.a, max q.b (max from_ q.a), q.G, q.H, q.T⟩
theorem cut_mat (q : Qy) (k : Ky) (f : Int) : matV (cutV q f) k = (matV q k && decide (f ≤ k.h)) := by
  have hr : rngV (cutV q f) k = (rngV q k && decide (f ≤ k.h)) := by
    unfold rngV cutV
    simp only
    rw [Bool.eq_iff_iff]
    simp only [Bool.and_eq_true, decide_eq_true_eq]
    omega
  unfold matV
  rw [hr]
  have hm : ∀ i, mt (cutV q f) k i = mt q k i := fun i => rfl
  rw [hm, hm, hm, hm]
  cases rngV q k <;> cases decide (f ≤ k.h) <;> simp
end Back
end As
end Go.Proofs.Ytjegkfdcelodeaa.P
