import Derived.Test.YtjegkfdcelodeaaPx4
import Derived.Test.YtjegkfdcelodeaaPx9
import Derived.Test.YtjegkfdcelodeaaPx10
import Derived.Test.YtjegkfdcelodeaaPol
namespace Go.Proofs.Ytjegkfdcelodeaa.Pol
set_option linter.unusedVariables false
set_option linter.unusedSimpArgs false
open Go.RowKit Go.Proofs.Ytjegkfdcelodeaa.P Go.Proofs.Ytjegkfdcelodeaa.P.Wr Go.Proofs.YtjegkfdcelodeaaW.PrintWords Go.Proofs.YtjegkfdcelodeaaW.PrintLast Go.Proofs.YtjegkfdcelodeaaW.PrintMore

theorem ref_Num_loop : ∀ (k : Nat) (n : Int) (l : List Int), 0 ≤ n → n < 18446744073709551616 → n < 128 ^ k → 0 < k → l.length + k ≤ 10000000 → ossuaryref01_Num.l0 k n l = some (l ++ numB n)
  | 0, n, l, h0, h1, h2, h3, h4 => absurd h3 (by omega)
  | k + 1, n, l, h0, h1, h2, h3, h4 => by
    rw [ossuaryref01_Num.l0, numB]
    by_cases c : n > 127
    · have hk : 0 < k := by
        rcases Nat.eq_zero_or_pos k with e | e
        · subst e; simp at h2; omega
        · exact e
      have h5 : n / 128 < 128 ^ k := by rw [Int.pow_succ] at h2; omega
      rw [if_pos c, if_pos (by omega), if_neg (by omega), Int.tdiv_eq_ediv_of_nonneg h0, Int.tmod_eq_emod_of_nonneg h0, wrap_u64, wrap_u64,
        show n / 128 % 18446744073709551616 = n / 128 by omega, show (n % 128 + 128) % 18446744073709551616 % 256 = n % 128 + 128 by omega,
        ref_Num_loop k (n / 128) _ (by omega) (by omega) h5 hk (by simp; omega)]
      simp
    · rw [if_neg c, if_pos (by omega), if_pos (by omega), show n % 256 = n by omega]
theorem ref_Num_eq (k : Nat) (n : Int) (h0 : 0 ≤ n) (h1 : n < 18446744073709551616) (hk : 10 ≤ k) (hk2 : k ≤ 1000000) : ossuaryref01_Num.f k n = some (numB n) := by
  unfold ossuaryref01_Num.f
  rw [ref_Num_loop k n [] h0 h1 ?_ (by omega) (by simp; omega)]; rfl
  have : (128 : Int) ^ 10 ≤ 128 ^ k := by exact_mod_cast Nat.pow_le_pow_right (by decide) hk
  have e : (128 : Int) ^ 10 = 1180591620717411303424 := by decide
  omega
theorem ref_Form_loop (L : List Int) (hL : L.length = 9) (hb : ∀ j, j < 9 → 0 ≤ L.getD j 0 ∧ L.getD j 0 ≤ 1048576) : ∀ (d : Nat) (k : Nat) (acc : List Int) (i : Nat), i + d = 9 → d + 11 ≤ k → k ≤ 1000000 → acc.length ≤ 10 * i →
    ossuaryref18_Form.l0 k L acc i = some (acc ++ encL L d i)
  | _, 0, _, _, _, h, _, _ => absurd h (by omega)
  | 0, k + 1, acc, i, hi, hk, hk2, ha => by
    rw [ossuaryref18_Form.l0, if_neg (by omega), encL, List.append_nil]
  | d + 1, k + 1, acc, i, hi, hk, hk2, ha => by
    have b := hb i (by omega)
    have e : rd L (i : Int) = L.getD i 0 := by simp [rd]
    rw [ossuaryref18_Form.l0, if_pos (by omega), if_pos (by omega), e, encL]
    generalize L.getD i 0 = x at *
    have hx : IntKind.u64.wrap x = x := by rw [wrap_u64]; omega
    have hn := numB_len x 10 (by omega) (by omega)
    rw [hx, ref_Num_eq k x (by omega) (by omega) (by omega) (by omega)]
    simp only [Option.bind_some]
    rw [if_pos (by omega), w64 _ (by omega), show (i : Int) + 1 = ((i + 1 : Nat) : Int) by omega, ref_Form_loop L hL hb d k _ (i + 1) (by omega) (by omega) (by omega) (by simp; omega), List.append_assoc]
theorem polL_bd (a0 a1 a2 a3 a4 a5 a6 a7 a8 : Int) (h : polP a0 a1 a2 a3 a4 a5 a6 a7 a8) : ∀ j, j < 9 → 0 ≤ (polL a0 a1 a2 a3 a4 a5 a6 a7 a8).getD j 0 ∧ (polL a0 a1 a2 a3 a4 a5 a6 a7 a8).getD j 0 ≤ 1048576 := by
  intro j hj
  obtain ⟨h0, h1, h2, h3, h4, h5, h6, h7, h8⟩ := h
  match j, hj with
  | 0, _ => show 0 ≤ a0 ∧ a0 ≤ 1048576; omega
  | 1, _ => show 0 ≤ a1 ∧ a1 ≤ 1048576; omega
  | 2, _ => show 0 ≤ a2 ∧ a2 ≤ 1048576; omega
  | 3, _ => show 0 ≤ a3 ∧ a3 ≤ 1048576; omega
  | 4, _ => show 0 ≤ a4 ∧ a4 ≤ 1048576; omega
  | 5, _ => show 0 ≤ a5 ∧ a5 ≤ 1048576; omega
  | 6, _ => show 0 ≤ a6 ∧ a6 ≤ 1048576; omega
  | 7, _ => show 0 ≤ a7 ∧ a7 ≤ 1048576; omega
  | 8, _ => show 0 ≤ a8 ∧ a8 ≤ 1048576; omega
def encO (a0 a1 a2 a3 a4 a5 a6 a7 a8 : Int) : List Int × Int := if polP a0 a1 a2 a3 a4 a5 a6 a7 a8 then (encL (polL a0 a1 a2 a3 a4 a5 a6 a7 a8) 9 0, 0) else ([], 2)
theorem policy_Encode_eq (a0 a1 a2 a3 a4 a5 a6 a7 a8 : Int) : policy_Encode.f a0 a1 a2 a3 a4 a5 a6 a7 a8 = some (encO a0 a1 a2 a3 a4 a5 a6 a7 a8) := by
  have e := policy_Check_eq a0 a1 a2 a3 a4 a5 a6 a7 a8
  unfold policy_Check.f at e
  have e := Option.some.inj e
  unfold policy_Encode.f encO
  rw [e]
  by_cases h : polP a0 a1 a2 a3 a4 a5 a6 a7 a8
  · rw [if_pos h, if_pos rfl, if_pos h]
  · rw [if_neg h, if_neg (by decide), if_neg h]
theorem ref_Encode_eq (a0 a1 a2 a3 a4 a5 a6 a7 a8 : Int) : ossuaryref18_Encode.f 100 a0 a1 a2 a3 a4 a5 a6 a7 a8 = some (encO a0 a1 a2 a3 a4 a5 a6 a7 a8) := by
  unfold ossuaryref18_Encode.f encO
  rw [ref_Check_eq _ _ _ _ _ _ _ _ _ _ (by omega)]
  simp only [Option.bind_some]
  by_cases h : polP a0 a1 a2 a3 a4 a5 a6 a7 a8
  · rw [if_pos h, if_pos rfl, if_pos h]
    have f := ref_Form_loop (polL a0 a1 a2 a3 a4 a5 a6 a7 a8) rfl (polL_bd _ _ _ _ _ _ _ _ _ h) 9 100 [] 0 (by omega) (by omega) (by omega) (by simp)
    unfold ossuaryref18_Form.f
    have g : ossuaryref18_Form.l0 100 [a0, a1, a2, a3, a4, a5, a6, a7, a8] [] 0 = some (encL (polL a0 a1 a2 a3 a4 a5 a6 a7 a8) 9 0) := f
    rw [g]; rfl
  · rw [if_neg h, if_neg (by decide), if_neg h]
theorem ref_Same_refl (l : List Int) : ossuaryref01_Same.f l l = some true := by
  unfold ossuaryref01_Same.f; simp
end Go.Proofs.Ytjegkfdcelodeaa.Pol
