import Derived.Test.YtjegkfdcelodeaaPol
import Derived.Test.YtjegkfdcelodeaaPr
namespace Go.Proofs.Ytjegkfdcelodeaa.Pol
set_option linter.unusedVariables false
set_option linter.unusedSimpArgs false
open Go.RowKit Go.Proofs.Ytjegkfdcelodeaa.P Go.Proofs.Ytjegkfdcelodeaa.P.Wr Go.Proofs.YtjegkfdcelodeaaW.PrintWords Go.Proofs.YtjegkfdcelodeaaW.PrintLast Go.Proofs.YtjegkfdcelodeaaW.PrintMore

theorem rd_numB : ∀ (d e i : Nat) (n x : Int) (rest : List Int), 0 ≤ x → x < 128 ^ d → 0 < d → i + d ≤ 9 → (i = 0 ∨ 0 < x) → rdNum (d + e) i n (numB x ++ rest) = (n + x * 128 ^ i, rest, 0)
  | 0, _, _, _, _, _, _, _, h, _, _ => absurd h (by omega)
  | d + 1, e, i, n, x, rest, h0, h1, h2, h3, h4 => by
    rw [numB, show d + 1 + e = (d + e) + 1 from by omega]
    by_cases c : x < 128
    · rw [if_pos c, List.singleton_append, rdNum, if_neg (by omega), if_neg (by omega), if_pos c, show x % 128 = x by omega]
    · have hd : 0 < d := by
        rcases Nat.eq_zero_or_pos d with h | h
        · subst h; simp at h1; omega
        · exact h
      have h5 : x / 128 < 128 ^ d := by rw [Int.pow_succ] at h1; omega
      rw [if_neg c, List.cons_append, rdNum, if_neg (by omega), if_neg (by omega), if_neg (by omega), show (x % 128 + 128) % 128 = x % 128 by omega,
        rd_numB d e (i + 1) _ (x / 128) rest (by omega) h5 hd (by omega) (.inr (by omega))]
      have hx : x * 128 ^ i = x % 128 * 128 ^ i + x / 128 * 128 ^ (i + 1) := by
        have e1 : x = x % 128 + x / 128 * 128 := by omega
        rw [Int.pow_succ, Int.mul_comm ((128 : Int) ^ i) 128, ← Int.mul_assoc, ← Int.add_mul, ← e1]
      rw [hx, Int.add_assoc]
theorem numB_byte : ∀ (d : Nat) (x : Int), 0 ≤ x → x < 128 ^ d → 0 < d → ∀ y ∈ numB x, 0 ≤ y ∧ y < 256
  | 0, _, _, _, h => absurd h (by omega)
  | d + 1, x, h0, h1, _ => by
    intro y hy
    rw [numB] at hy
    split at hy
    · simp at hy; omega
    · rename_i c
      have hd : 0 < d := by
        rcases Nat.eq_zero_or_pos d with h | h
        · subst h; simp at h1; omega
        · exact h
      rcases List.mem_cons.mp hy with h | h
      · omega
      · exact numB_byte d (x / 128) (by omega) (by rw [Int.pow_succ] at h1; omega) hd y h
theorem encL_byte (L : List Int) (hb : ∀ j, j < 9 → 0 ≤ L.getD j 0 ∧ L.getD j 0 ≤ 1048576) : ∀ d i, i + d = 9 → (∀ y ∈ encL L d i, 0 ≤ y ∧ y < 256) ∧ (encL L d i).length ≤ 10 * d
  | 0, i, h => by simp [encL]
  | d + 1, i, h => by
    have b := hb i (by omega)
    have r := encL_byte L hb d (i + 1) (by omega)
    have n := numB_len (L.getD i 0) 10 (by omega) (by omega)
    rw [encL]
    refine ⟨fun y hy => ?_, by rw [List.length_append]; omega⟩
    rcases List.mem_append.mp hy with q | q
    · exact numB_byte 10 _ b.1 (by omega) (by omega) y q
    · exact r.1 y q
theorem st_enc (L : List Int) (hb : ∀ j, j < 9 → 0 ≤ L.getD j 0 ∧ L.getD j 0 ≤ 1048576) : ∀ i, i ≤ 9 → stS (encL L 9 0, 0) i = (encL L (9 - i) i, 0)
  | 0, _ => rfl
  | i + 1, h => by
    have b := hb i (by omega)
    rw [stS, st_enc L hb i (by omega), numS, if_pos rfl, show 9 - i = (9 - (i + 1)) + 1 from by omega, encL]
    rw [rd_numB 9 1 0 0 (L.getD i 0) _ b.1 (by omega) (by omega) (by omega) (.inl rfl)]
theorem va_enc (L : List Int) (hb : ∀ j, j < 9 → 0 ≤ L.getD j 0 ∧ L.getD j 0 ≤ 1048576) (i : Nat) (h : i < 9) : vaS (encL L 9 0, 0) i = L.getD i 0 := by
  have b := hb i h
  rw [vaS, st_enc L hb i (by omega), numS, if_pos rfl, show 9 - i = (9 - (i + 1)) + 1 from by omega, encL]
  rw [rd_numB 9 1 0 0 (L.getD i 0) _ b.1 (by omega) (by omega) (by omega) (.inl rfl)]
  simp
theorem wr_enc (L : List Int) (hb : ∀ j, j < 9 → 0 ≤ L.getD j 0 ∧ L.getD j 0 ≤ 1048576) : ∀ i, i ≤ 9 → wrS (encL L 9 0, 0) i = false
  | 0, _ => rfl
  | i + 1, h => by
    have b := hb i (by omega)
    rw [wrS, wr_enc L hb i (by omega), va_enc L hb i (by omega), decide_eq_false (by omega)]; rfl
theorem cv_enc (L : List Int) (hb : ∀ j, j < 9 → 0 ≤ L.getD j 0 ∧ L.getD j 0 ≤ 1048576) (j : Nat) (h : j < 9) : cvS (encL L 9 0, 0) 9 j = L.getD j 0 := by
  have b := hb j h
  rw [cvS, if_pos h, va_enc L hb j h, w64 _ (by omega)]
theorem res_enc (a0 a1 a2 a3 a4 a5 a6 a7 a8 : Int) (h : polP a0 a1 a2 a3 a4 a5 a6 a7 a8) : resP (encL (polL a0 a1 a2 a3 a4 a5 a6 a7 a8) 9 0, 0) = (polA a0 a1 a2 a3 a4 a5 a6 a7 a8, 0) := by
  have hb := polL_bd _ _ _ _ _ _ _ _ _ h
  have e := policy_Check_eq a0 a1 a2 a3 a4 a5 a6 a7 a8
  unfold policy_Check.f at e
  have e := Option.some.inj e
  rw [if_pos h] at e
  unfold resP
  rw [st_enc _ hb 9 (by omega), if_neg (by simp), wr_enc _ hb 9 (by omega), if_neg (by decide)]
  unfold polC polS
  rw [cv_enc _ hb 0 (by omega), cv_enc _ hb 1 (by omega), cv_enc _ hb 2 (by omega), cv_enc _ hb 3 (by omega), cv_enc _ hb 4 (by omega), cv_enc _ hb 5 (by omega), cv_enc _ hb 6 (by omega), cv_enc _ hb 7 (by omega), cv_enc _ hb 8 (by omega)]
  exact if_pos e
theorem dlv_ge (cap : Int) : ∀ (d : Nat) (n t : Int), (cap - n).toNat ≤ d → 1 ≤ n → n ≤ dlv cap n t
  | d, n, t, hd, h1 => by
    rw [dlv]
    split
    · omega
    · split
      · omega
      · split
        · omega
        · match d with
          | 0 => omega
          | d + 1 => have := dlv_ge cap d (2 * n) (t - 1) (by omega) (by omega); omega
theorem dlv_mono (cap : Int) : ∀ (d : Nat) (n t u : Int), (cap - n).toNat ≤ d → 1 ≤ n → t ≤ u → mn (dlv cap n t) cap ≤ mn (dlv cap n u) cap
  | d, n, t, u, hd, h1, h => by
    by_cases c : t ≤ 0
    · have e : dlv cap n t = n := by rw [dlv, if_pos c]
      have g := dlv_ge cap d n u hd h1
      rw [e]; unfold mn; split <;> split <;> omega
    · have step : ∀ q : Int, ¬ q ≤ 0 → dlv cap n q = if cap ≤ n then n else dlv cap (2 * n) (q - 1) := by
        intro q hq
        rw [dlv, if_neg hq]
        split
        · rfl
        · rw [if_neg (by omega)]
      rw [step t c, step u (by omega)]
      by_cases k : cap ≤ n
      · rw [if_pos k, if_pos k]; omega
      · rw [if_neg k, if_neg k]
        match d with
        | 0 => omega
        | d + 1 => exact dlv_mono cap d (2 * n) (t - 1) (u - 1) (by omega) (by omega) (by omega)
end Go.Proofs.Ytjegkfdcelodeaa.Pol
