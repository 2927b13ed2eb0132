import Derived.Test.YtjegkfdcelodeaaNum
import Derived.Test.YtjegkfdcelodeaaWp
import Derived.Test.YtjegkfdcelodeaaPx14
import Derived.Test.YtjegkfdcelodeaaPx12
namespace Go.Proofs.Ytjegkfdcelodeaa.Pol
set_option linter.unusedVariables false
set_option linter.unusedSimpArgs false
open Go.RowKit Go.Proofs.Ytjegkfdcelodeaa.P Go.Proofs.Ytjegkfdcelodeaa.P.Wr Go.Proofs.YtjegkfdcelodeaaW.PrintWords Go.Proofs.YtjegkfdcelodeaaW.PrintLast Go.Proofs.YtjegkfdcelodeaaW.PrintMore
theorem light_loop (l : List S52) (hl : l.length ≤ 40) : ∀ (d k i : Nat), i + d = l.length → d < k → ossuarylaw01_light.l0 k l i = some ((l.drop i).all (fun p => decide (p.f4.size ≤ 60)))
  | _, 0, _, _, h => absurd h (by omega)
  | 0, k + 1, i, hi, h => by
    rw [ossuarylaw01_light.l0, if_neg (by omega), List.drop_eq_nil_of_le (by omega)]; rfl
  | d + 1, k + 1, i, hi, h => by
    have hil : i < l.length := by omega
    have e : rd_T52 l (i : Int) = l[i] := by simp [rd_T52, List.getD_eq_getElem?_getD, hil]
    rw [ossuarylaw01_light.l0, if_pos (by omega), if_pos (by omega), e, List.drop_eq_getElem_cons hil, List.all_cons]
    by_cases c : (l[i].f4.size : Int) > 60
    · rw [if_pos c, show decide (l[i].f4.size ≤ 60) = false from decide_eq_false (by omega)]; rfl
    · rw [if_neg c, show decide (l[i].f4.size ≤ 60) = true from decide_eq_true (by omega), w64 _ (by omega), show (i : Int) + 1 = ((i + 1 : Nat) : Int) by omega, light_loop l hl d k (i + 1) (by omega) (by omega)]; rfl
def lightV (l : List S52) : Bool := decide (l.length ≤ 40) && l.all (fun p => decide (p.f4.size ≤ 60))
theorem light_eq (l : List S52) : ossuarylaw01_light.f 50 l = some (lightV l) := by
  unfold ossuarylaw01_light.f lightV
  by_cases c : (l.length : Int) > 40
  · rw [if_pos c, show decide (l.length ≤ 40) = false from decide_eq_false (by omega)]; rfl
  · rw [if_neg c, show decide (l.length ≤ 40) = true from decide_eq_true (by omega)]
    have := light_loop l (by omega) l.length 50 0 (by omega) (by omega)
    rw [List.drop_zero] at this
    exact this
theorem lightV_spec {l : List S52} (h : lightV l = true) : l.length ≤ 40 ∧ ∀ p ∈ l, p.f4.size ≤ 60 := by
  unfold lightV at h
  simp at h
  exact h
theorem ref_Int_eq (k : Nat) (n : Int) (h : -9223372036854775808 ≤ n ∧ n < 9223372036854775808) (hk : 10 ≤ k) (hk2 : k ≤ 1000000) : ossuaryref01_Int.f k n = some (numB (zz n)) := by
  unfold ossuaryref01_Int.f zz
  by_cases c : 0 ≤ n
  · rw [if_pos c, if_pos c, wrap_u64, wrap_u64, show 2 * (n % 18446744073709551616) % 18446744073709551616 = 2 * n by omega, ref_Num_eq k _ (by omega) (by omega) hk hk2]; rfl
  · rw [if_neg c, if_neg c, w64 (n + 1) (by omega), w64 (-(n + 1)) (by omega), wrap_u64, wrap_u64, wrap_u64, show (2 * (-(n + 1) % 18446744073709551616) % 18446744073709551616 + 1) % 18446744073709551616 = -2 * n - 1 by omega, ref_Num_eq k _ (by omega) (by omega) hk hk2]; rfl
def partS (p : S52) : List Int := partB p.f0 p.f1 p.f2 p.f3 p.f4 p.f5
def putsB (l : List S52) : List Int := l.flatMap partS
def okS (p : S52) : Prop := (0 ≤ p.f2 ∧ p.f2 < 18446744073709551616) ∧ (-9223372036854775808 ≤ p.f3 ∧ p.f3 < 9223372036854775808)
theorem form_eq (p : S52) (hp : okS p) (ht : p.f4.size ≤ 1000) : ossuarylaw01_form.f 100 p.f0 p.f1 p.f2 p.f3 p.f4 p.f5 = some (partS p) := by
  obtain ⟨k, m, n, s, t, b⟩ := p
  obtain ⟨hn, hs⟩ := hp
  simp only at hn hs ht ⊢
  unfold ossuarylaw01_form.f partS partB
  have e1 := ref_Num_eq 99 n hn.1 hn.2 (by omega) (by omega)
  have e2 := ref_Int_eq 99 s hs (by omega) (by omega)
  have e3 : ossuaryref01_Text.f 99 t = some (numB t.size ++ bytesOf t) := by
    unfold ossuaryref01_Text.f
    have hl := numB_len (t.size : Int) 10 (by omega) (by omega)
    rw [wrap_u64, show (t.size : Int) % 18446744073709551616 = t.size by omega, ref_Num_eq 99 _ (by omega) (by omega) (by omega) (by omega)]
    simp only [Option.bind_some]
    rw [if_pos (by omega)]
  by_cases k1 : k = 1
  · subst k1; simp [ossuarylaw01_form.j0, e1]
  by_cases k5 : k = 5
  · subst k5; simp [ossuarylaw01_form.j0, e1]
  by_cases k2 : k = 2
  · subst k2; simp [ossuarylaw01_form.j0, e2]
  by_cases k3 : k = 3
  · subst k3; simp [ossuarylaw01_form.j0, e3]
  by_cases k4 : k = 4
  · subst k4; cases b <;> simp [ossuarylaw01_form.j0, ossuaryref01_Bool.f]
  simp [ossuarylaw01_form.j0, k1, k2, k3, k4, k5]
theorem partS_len (p : S52) (hp : okS p) (ht : p.f4.size ≤ 60) : (partS p).length ≤ 70 := by
  obtain ⟨k, m, n, s, t, b⟩ := p
  obtain ⟨hn, hs⟩ := hp
  simp only at hn hs ht
  unfold partS partB
  have h1 := numB_len n 10 (by omega) (by omega)
  have h2 := numB_len (zz s) 10 (by unfold zz; split <;> omega) (by omega)
  have h3 := numB_len (t.size : Int) 10 (by omega) (by omega)
  have h4 : (bytesOf t).length = t.size := bytesOf_length t
  simp only
  split
  · omega
  split
  · omega
  split
  · omega
  split
  · rw [List.length_append]; omega
  split
  · simp
  · simp
theorem putsB_len : ∀ (l : List S52), (∀ p ∈ l, okS p ∧ p.f4.size ≤ 60) → (putsB l).length ≤ 70 * l.length
  | [], _ => by simp [putsB]
  | p :: l, h => by
    have h1 := partS_len p (h p (by simp)).1 (h p (by simp)).2
    have h2 := putsB_len l (fun q hq => h q (by simp [hq]))
    unfold putsB at h2 ⊢
    simp only [List.flatMap_cons, List.length_append, List.length_cons]
    omega
theorem putsB_take (l : List S52) (i : Nat) (h : i < l.length) : putsB (l.take (i + 1)) = putsB (l.take i) ++ partS l[i] := by
  have e : l.take (i + 1) = l.take i ++ [l[i]] := by simp
  unfold putsB
  rw [e, List.flatMap_append]
  simp
end Go.Proofs.Ytjegkfdcelodeaa.Pol
