import Derived.Test.YtjegkfdcelodeaaPx2
import Derived.Test.YtjegkfdcelodeaaPx3
import Derived.Test.YtjegkfdcelodeaaPx4
import Derived.Test.YtjegkfdcelodeaaPx5
import Derived.Test.YtjegkfdcelodeaaPx6
import Derived.Test.YtjegkfdcelodeaaPx7
import Derived.Test.YtjegkfdcelodeaaPx9
import Derived.Test.YtjegkfdcelodeaaPx10
namespace Go.Proofs.Ytjegkfdcelodeaa.Pol
set_option linter.unusedVariables false
set_option linter.unusedSimpArgs false
open Go.RowKit Go.Proofs.Ytjegkfdcelodeaa.P Go.Proofs.YtjegkfdcelodeaaW.PrintWords Go.Proofs.YtjegkfdcelodeaaW.PrintLast Go.Proofs.YtjegkfdcelodeaaW.PrintMore

/-- A policy that is right. -/
def polP (a0 a1 a2 a3 a4 a5 a6 a7 a8 : Int) : Prop := (1 ≤ a0 ∧ a0 ≤ 1048576) ∧ (0 ≤ a1 ∧ a1 ≤ 1048576) ∧ (0 ≤ a2 ∧ a2 ≤ 1048576) ∧ (0 ≤ a3 ∧ a3 ≤ 1048576) ∧ (0 ≤ a4 ∧ a4 ≤ 1048576) ∧ (1 ≤ a5 ∧ a5 ≤ 1048576) ∧ (1 ≤ a6 ∧ a6 ≤ 1048576) ∧ (1 ≤ a7 ∧ a7 ≤ 64) ∧ (100 ≤ a8 ∧ a8 ≤ 1048576)
instance (a0 a1 a2 a3 a4 a5 a6 a7 a8 : Int) : Decidable (polP a0 a1 a2 a3 a4 a5 a6 a7 a8) := by unfold polP; infer_instance
theorem chk_step (l : List Int) (d i : Nat) (x : Int) (hx : l.getD i 0 = x) : chkL l (d + 1) i = if loL i ≤ x ∧ x ≤ hiL i then chkL l d (i + 1) else 2 := by
  rw [chkL, hx]
  by_cases c : x < loL i
  · rw [if_pos c, if_neg (by omega)]
  · rw [if_neg c]
    by_cases d : hiL i < x
    · rw [if_pos d, if_neg (by omega)]
    · rw [if_neg d, if_pos (by omega)]
theorem policy_Check_eq (a0 a1 a2 a3 a4 a5 a6 a7 a8 : Int) : policy_Check.f a0 a1 a2 a3 a4 a5 a6 a7 a8 = some (if polP a0 a1 a2 a3 a4 a5 a6 a7 a8 then 0 else 2) := by
  unfold policy_Check.f
  congr 1
  rw [chk_step _ 8 0 a0 rfl, chk_step _ 7 1 a1 rfl, chk_step _ 6 2 a2 rfl, chk_step _ 5 3 a3 rfl, chk_step _ 4 4 a4 rfl, chk_step _ 3 5 a5 rfl, chk_step _ 2 6 a6 rfl, chk_step _ 1 7 a7 rfl, chk_step _ 0 8 a8 rfl]
  have e0 : loL 0 = 1 ∧ hiL 0 = 1048576 := ⟨rfl, rfl⟩
  have e1 : loL 1 = 0 ∧ hiL 1 = 1048576 := ⟨rfl, rfl⟩
  have e2 : loL 2 = 0 ∧ hiL 2 = 1048576 := ⟨rfl, rfl⟩
  have e3 : loL 3 = 0 ∧ hiL 3 = 1048576 := ⟨rfl, rfl⟩
  have e4 : loL 4 = 0 ∧ hiL 4 = 1048576 := ⟨rfl, rfl⟩
  have e5 : loL 5 = 1 ∧ hiL 5 = 1048576 := ⟨rfl, rfl⟩
  have e6 : loL 6 = 1 ∧ hiL 6 = 1048576 := ⟨rfl, rfl⟩
  have e7 : loL 7 = 1 ∧ hiL 7 = 64 := ⟨rfl, rfl⟩
  have e8 : loL 8 = 100 ∧ hiL 8 = 1048576 := ⟨rfl, rfl⟩
  rw [e0.1, e0.2, e1.1, e1.2, e2.1, e2.2, e3.1, e3.2, e4.1, e4.2, e5.1, e5.2, e6.1, e6.2, e7.1, e7.2, e8.1, e8.2]
  by_cases h : polP a0 a1 a2 a3 a4 a5 a6 a7 a8
  · rw [if_pos h]
    obtain ⟨h0, h1, h2, h3, h4, h5, h6, h7, h8⟩ := h
    rw [if_pos h0, if_pos h1, if_pos h2, if_pos h3, if_pos h4, if_pos h5, if_pos h6, if_pos h7, if_pos h8]; rfl
  · rw [if_neg h]
    split
    · split
      · split
        · split
          · split
            · split
              · split
                · split
                  · split
                    · rename_i h0 h1 h2 h3 h4 h5 h6 h7 h8
                      exact absurd ⟨h0, h1, h2, h3, h4, h5, h6, h7, h8⟩ h
                    · rfl
                  · rfl
                · rfl
              · rfl
            · rfl
          · rfl
        · rfl
      · rfl
    · rfl
theorem in_eq (x a b : Int) : ossuaryref18_in.f x a b = some (decide (a ≤ x ∧ x ≤ b)) := by
  unfold ossuaryref18_in.f
  by_cases c : x ≥ a
  · rw [if_pos c]; congr 1; exact decide_eq_decide.mpr ⟨fun h => ⟨c, h⟩, fun h => h.2⟩
  · rw [if_neg c, decide_eq_false (fun h => c h.1)]
theorem ref_Check_eq (k : Nat) (a0 a1 a2 a3 a4 a5 a6 a7 a8 : Int) (hk : 1 ≤ k) : ossuaryref18_Check.f k a0 a1 a2 a3 a4 a5 a6 a7 a8 = some (if polP a0 a1 a2 a3 a4 a5 a6 a7 a8 then 0 else 2) := by
  obtain ⟨k, rfl⟩ : ∃ q, k = q + 1 := ⟨k - 1, by omega⟩
  unfold ossuaryref18_Check.f
  have no : ¬ polP a0 a1 a2 a3 a4 a5 a6 a7 a8 → ossuaryref18_Check.j0 (k + 1) true a0 a1 a2 a3 a4 a5 a6 a7 a8 = some (if polP a0 a1 a2 a3 a4 a5 a6 a7 a8 then 0 else 2) := by
    intro h; rw [if_neg h, ossuaryref18_Check.j0, if_pos rfl]
  rw [in_eq, in_eq, in_eq, in_eq, in_eq]
  simp only [Option.bind_some]
  by_cases h0 : 1 ≤ a0 ∧ a0 ≤ 1048576
  · rw [if_pos (decide_eq_true h0)]
    by_cases h1 : 0 ≤ a1 ∧ a1 ≤ 1048576
    · rw [if_pos (decide_eq_true h1)]
      by_cases h2 : 0 ≤ a2 ∧ a2 ≤ 1048576
      · rw [if_pos (decide_eq_true h2)]
        by_cases h3 : 0 ≤ a3 ∧ a3 ≤ 1048576
        · rw [if_pos (decide_eq_true h3)]
          by_cases h4 : 0 ≤ a4 ∧ a4 ≤ 1048576
          · rw [decide_eq_true h4, ossuaryref18_Check.j0, Bool.not_true, if_neg (by decide), in_eq, in_eq, in_eq, in_eq]
            simp only [Option.bind_some]
            by_cases h5 : 1 ≤ a5 ∧ a5 ≤ 1048576
            · rw [if_pos (decide_eq_true h5)]
              by_cases h6 : 1 ≤ a6 ∧ a6 ≤ 1048576
              · rw [if_pos (decide_eq_true h6)]
                by_cases h7 : 1 ≤ a7 ∧ a7 ≤ 64
                · rw [if_pos (decide_eq_true h7)]
                  by_cases h8 : 100 ≤ a8 ∧ a8 ≤ 1048576
                  · rw [if_pos (decide_eq_true h8), if_pos (show polP a0 a1 a2 a3 a4 a5 a6 a7 a8 from ⟨h0, h1, h2, h3, h4, h5, h6, h7, h8⟩)]
                  · rw [if_neg (by simpa using h8), if_neg (show ¬ polP a0 a1 a2 a3 a4 a5 a6 a7 a8 from fun h => h8 h.2.2.2.2.2.2.2.2)]
                · rw [if_neg (by simpa using h7), if_neg (show ¬ polP a0 a1 a2 a3 a4 a5 a6 a7 a8 from fun h => h7 h.2.2.2.2.2.2.2.1)]
              · rw [if_neg (by simpa using h6), if_neg (show ¬ polP a0 a1 a2 a3 a4 a5 a6 a7 a8 from fun h => h6 h.2.2.2.2.2.2.1)]
            · rw [if_neg (by simpa using h5), if_neg (show ¬ polP a0 a1 a2 a3 a4 a5 a6 a7 a8 from fun h => h5 h.2.2.2.2.2.1)]
          · rw [decide_eq_false h4]; exact no fun h => h4 h.2.2.2.2.1
        · rw [if_neg (by simpa using h3)]; exact no fun h => h3 h.2.2.2.1
      · rw [if_neg (by simpa using h2)]; exact no fun h => h2 h.2.2.1
    · rw [if_neg (by simpa using h1)]; exact no fun h => h1 h.2.1
  · rw [if_neg (by simpa using h0)]; exact no fun h => h0 h.1
def lagO (a1 a2 a3 t : Int) : Int × Bool := if t = 1 then (a1, true) else if t = 2 then (a2, true) else if t = 3 then (a3, true) else (0, false)
theorem policy_Lag_eq (a0 a1 a2 a3 a4 a5 a6 a7 a8 t : Int) : policy_Lag.f a0 a1 a2 a3 a4 a5 a6 a7 a8 t = some (lagO a1 a2 a3 t) := rfl
theorem ref_Lag_eq (a0 a1 a2 a3 a4 a5 a6 a7 a8 t : Int) : ossuaryref18_Lag.f a0 a1 a2 a3 a4 a5 a6 a7 a8 t = some (lagO a1 a2 a3 t) := by
  unfold ossuaryref18_Lag.f lagO
  repeat' split
  all_goals rfl
theorem w64 (x : Int) (h : -9223372036854775808 ≤ x ∧ x ≤ 9223372036854775807) : wrap64 x = x := by
  unfold wrap64; omega
theorem alive18 : ossuarylaw18_alive.f = some true := by
  have h0 : dlv 60 2 0 = 2 := by simp [dlv]
  have h5 : dlv 60 2 5 = 64 := by simp [dlv]
  have h100 : dlv 60 2 100 = 64 := by simp [dlv]
  have c : policy_Check.f 2000 1 2 24 48 2 60 16 4000 = some 0 := by rw [policy_Check_eq, if_pos (by unfold polP; omega)]
  simp [ossuarylaw18_alive.f, policy_Plain.f, ossuaryref18_Plain.f, c, policy_Delay.f, h0, h5, h100, mn]
theorem ref_Delay_loop (cap a0 a1 a2 a3 a4 a5 a7 a8 t : Int) (hc : cap ≤ 1048576) : ∀ (d : Nat) (k : Nat) (n i : Int), d < k → (cap - n).toNat ≤ d → 1 ≤ n → n ≤ 4194304 → 0 ≤ i → i + (cap - n).toNat ≤ 2000000 →
    ossuaryref18_Delay.l0 k t n i a0 a1 a2 a3 a4 a5 cap a7 a8 = some (mn (dlv cap n (t - i)) cap)
  | d, 0, _, _, h, _, _, _, _, _ => absurd h (by omega)
  | d, k + 1, n, i, h, hd, h1, h2, h3, h4 => by
    unfold ossuaryref18_Delay.l0
    rw [dlv]
    by_cases c : i < t
    · rw [if_pos c, if_neg (show ¬ t - i ≤ 0 by omega)]
      by_cases e : n < cap
      · rw [if_pos e, if_neg (show ¬ cap ≤ n by omega), if_neg (show ¬ n < 1 by omega), w64 _ (by omega), w64 _ (by omega), show t - i - 1 = t - (i + 1) by omega]
        obtain ⟨d, rfl⟩ : ∃ q, d = q + 1 := ⟨d - 1, by omega⟩
        exact ref_Delay_loop cap a0 a1 a2 a3 a4 a5 a7 a8 t hc d k (2 * n) (i + 1) (by omega) (by omega) (by omega) (by omega) (by omega) (by omega)
      · rw [if_neg e, if_pos (show cap ≤ n by omega)]
    · rw [if_neg c, if_pos (show t - i ≤ 0 by omega)]
end Go.Proofs.Ytjegkfdcelodeaa.Pol

namespace Go.Proofs.Ytjegkfdcelodeaa.Pol
set_option linter.unusedVariables false
set_option linter.unusedSimpArgs false
open Go.RowKit Go.Proofs.Ytjegkfdcelodeaa.P Go.Proofs.Ytjegkfdcelodeaa.P.Wr Go.Proofs.YtjegkfdcelodeaaW.PrintWords Go.Proofs.YtjegkfdcelodeaaW.PrintLast Go.Proofs.YtjegkfdcelodeaaW.PrintMore

theorem ref_Num_loop : ∀ (k : Nat) (n : Int) (l : List Int), 0 ≤ n → n < 18446744073709551616 → n < 128 ^ k → 0 < k → l.length + k ≤ 10000000 → ossuaryref01_Num.l0 k n l = some (l ++ numB n)
  | 0, n, l, h0, h1, h2, h3, h4 => absurd h3 (by omega)
  | k + 1, n, l, h0, h1, h2, h3, h4 => by
    rw [ossuaryref01_Num.l0, numB]
    by_cases c : n > 127
    · have hk : 0 < k := by
        rcases Nat.eq_zero_or_pos k with e | e
        · subst e; simp at h2; omega
        · exact e
      have h5 : n / 128 < 128 ^ k := by rw [Int.pow_succ] at h2; omega
      rw [if_pos c, if_pos (by omega), if_neg (by omega), Int.tdiv_eq_ediv_of_nonneg h0, Int.tmod_eq_emod_of_nonneg h0, wrap_u64, wrap_u64,
        show n / 128 % 18446744073709551616 = n / 128 by omega, show (n % 128 + 128) % 18446744073709551616 % 256 = n % 128 + 128 by omega,
        ref_Num_loop k (n / 128) _ (by omega) (by omega) h5 hk (by simp; omega)]
      simp
    · rw [if_neg c, if_pos (by omega), if_pos (by omega), show n % 256 = n by omega]
theorem ref_Num_eq (k : Nat) (n : Int) (h0 : 0 ≤ n) (h1 : n < 18446744073709551616) (hk : 10 ≤ k) (hk2 : k ≤ 1000000) : ossuaryref01_Num.f k n = some (numB n) := by
  unfold ossuaryref01_Num.f
  rw [ref_Num_loop k n [] h0 h1 ?_ (by omega) (by simp; omega)]; rfl
  have : (128 : Int) ^ 10 ≤ 128 ^ k := by exact_mod_cast Nat.pow_le_pow_right (by decide) hk
  have e : (128 : Int) ^ 10 = 1180591620717411303424 := by decide
  omega
theorem ref_Form_loop (L : List Int) (hL : L.length = 9) (hb : ∀ j, j < 9 → 0 ≤ L.getD j 0 ∧ L.getD j 0 ≤ 1048576) : ∀ (d : Nat) (k : Nat) (acc : List Int) (i : Nat), i + d = 9 → d + 11 ≤ k → k ≤ 1000000 → acc.length ≤ 10 * i →
    ossuaryref18_Form.l0 k L acc i = some (acc ++ encL L d i)
  | _, 0, _, _, _, h, _, _ => absurd h (by omega)
  | 0, k + 1, acc, i, hi, hk, hk2, ha => by
    rw [ossuaryref18_Form.l0, if_neg (by omega), encL, List.append_nil]
  | d + 1, k + 1, acc, i, hi, hk, hk2, ha => by
    have b := hb i (by omega)
    have e : rd L (i : Int) = L.getD i 0 := by simp [rd]
    rw [ossuaryref18_Form.l0, if_pos (by omega), if_pos (by omega), e, encL]
    generalize L.getD i 0 = x at *
    have hx : IntKind.u64.wrap x = x := by rw [wrap_u64]; omega
    have hn := numB_len x 10 (by omega) (by omega)
    rw [hx, ref_Num_eq k x (by omega) (by omega) (by omega) (by omega)]
    simp only [Option.bind_some]
    rw [if_pos (by omega), w64 _ (by omega), show (i : Int) + 1 = ((i + 1 : Nat) : Int) by omega, ref_Form_loop L hL hb d k _ (i + 1) (by omega) (by omega) (by omega) (by simp; omega), List.append_assoc]
theorem polL_bd (a0 a1 a2 a3 a4 a5 a6 a7 a8 : Int) (h : polP a0 a1 a2 a3 a4 a5 a6 a7 a8) : ∀ j, j < 9 → 0 ≤ (polL a0 a1 a2 a3 a4 a5 a6 a7 a8).getD j 0 ∧ (polL a0 a1 a2 a3 a4 a5 a6 a7 a8).getD j 0 ≤ 1048576 := by
  intro j hj
  obtain ⟨h0, h1, h2, h3, h4, h5, h6, h7, h8⟩ := h
  match j, hj with
  | 0, _ => show 0 ≤ a0 ∧ a0 ≤ 1048576; omega
  | 1, _ => show 0 ≤ a1 ∧ a1 ≤ 1048576; omega
  | 2, _ => show 0 ≤ a2 ∧ a2 ≤ 1048576; omega
  | 3, _ => show 0 ≤ a3 ∧ a3 ≤ 1048576; omega
  | 4, _ => show 0 ≤ a4 ∧ a4 ≤ 1048576; omega
  | 5, _ => show 0 ≤ a5 ∧ a5 ≤ 1048576; omega
  | 6, _ => show 0 ≤ a6 ∧ a6 ≤ 1048576; omega
  | 7, _ => show 0 ≤ a7 ∧ a7 ≤ 1048576; omega
  | 8, _ => show 0 ≤ a8 ∧ a8 ≤ 1048576; omega
def encO (a0 a1 a2 a3 a4 a5 a6 a7 a8 : Int) : List Int × Int := if polP a0 a1 a2 a3 a4 a5 a6 a7 a8 then (encL (polL a0 a1 a2 a3 a4 a5 a6 a7 a8) 9 0, 0) else ([], 2)
theorem policy_Encode_eq (a0 a1 a2 a3 a4 a5 a6 a7 a8 : Int) : policy_Encode.f a0 a1 a2 a3 a4 a5 a6 a7 a8 = some (encO a0 a1 a2 a3 a4 a5 a6 a7 a8) := by
  have e := policy_Check_eq a0 a1 a2 a3 a4 a5 a6 a7 a8
  unfold policy_Check.f at e
  have e := Option.some.inj e
  unfold policy_Encode.f encO
  rw [e]
  by_cases h : polP a0 a1 a2 a3 a4 a5 a6 a7 a8
  · rw [if_pos h, if_pos rfl, if_pos h]
  · rw [if_neg h, if_neg (by decide), if_neg h]
theorem ref_Encode_eq (a0 a1 a2 a3 a4 a5 a6 a7 a8 : Int) : ossuaryref18_Encode.f 100 a0 a1 a2 a3 a4 a5 a6 a7 a8 = some (encO a0 a1 a2 a3 a4 a5 a6 a7 a8) := by
  unfold ossuaryref18_Encode.f encO
  rw [ref_Check_eq _ _ _ _ _ _ _ _ _ _ (by omega)]
  simp only [Option.bind_some]
  by_cases h : polP a0 a1 a2 a3 a4 a5 a6 a7 a8
  · rw [if_pos h, if_pos rfl, if_pos h]
    have f := ref_Form_loop (polL a0 a1 a2 a3 a4 a5 a6 a7 a8) rfl (polL_bd _ _ _ _ _ _ _ _ _ h) 9 100 [] 0 (by omega) (by omega) (by omega) (by simp)
    unfold ossuaryref18_Form.f
    have g : ossuaryref18_Form.l0 100 [a0, a1, a2, a3, a4, a5, a6, a7, a8] [] 0 = some (encL (polL a0 a1 a2 a3 a4 a5 a6 a7 a8) 9 0) := f
    rw [g]; rfl
  · rw [if_neg h, if_neg (by decide), if_neg h]
theorem ref_Same_refl (l : List Int) : ossuaryref01_Same.f l l = some true := by
  unfold ossuaryref01_Same.f; simp
end Go.Proofs.Ytjegkfdcelodeaa.Pol
