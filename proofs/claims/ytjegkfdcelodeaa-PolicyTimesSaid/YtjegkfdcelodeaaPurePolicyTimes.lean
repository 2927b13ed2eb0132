import Derived.Test.YtjegkfdcelodeaaPol
import Derived.Test.YtjegkfdcelodeaaSayPolicyTimes
namespace Go.Proofs.Ytjegkfdcelodeaa.Pure
set_option linter.unusedVariables false
set_option linter.unusedSimpArgs false
open Go.RowKit Go.Proofs.Ytjegkfdcelodeaa.P Go.Proofs.Ytjegkfdcelodeaa.Pol Go.Proofs.YtjegkfdcelodeaaW.PrintWords Go.Proofs.YtjegkfdcelodeaaW.PrintLast Go.Proofs.YtjegkfdcelodeaaW.PrintMore

theorem of_wf {n : Int} (h : (Lit.int .i64 n).wf = true) : -9223372036854775808 ≤ n ∧ n ≤ 9223372036854775807 := by
  simp [Lit.wf, IntKind.min, IntKind.max, IntKind.bits, IntKind.signed] at h; omega
theorem mx_com (a b : Int) : mx a b = mx b a := by unfold mx; split <;> split <;> omega
theorem PolicyTimes : ossuarylaw18_PolicyTimes.Pure := by
  intro a0 a1 a2 a3 a4 a5 a6 a7 a8 t h n _ _ _ _ _ _ _ _ _ ht hh hn
  refine ⟨2000001, ?_⟩
  unfold ossuarylaw18_PolicyTimes.f
  rw [ref_Check_eq _ _ _ _ _ _ _ _ _ _ (by omega)]
  simp only [Option.bind_some]
  have out : ∀ b : Bool, b = true → ossuarylaw18_PolicyTimes.j0 2000001 t h n b a0 a1 a2 a3 a4 a5 a6 a7 a8 = some true := by
    intro b e
    rw [ossuarylaw18_PolicyTimes.j0, if_pos e, alive18]; rfl
  by_cases p : polP a0 a1 a2 a3 a4 a5 a6 a7 a8
  · rw [if_pos p, if_pos rfl]
    by_cases c : h < 0
    · rw [if_pos c]; exact out _ rfl
    · rw [if_neg c]
      by_cases d : h > 4611686018427387904
      · exact out _ (decide_eq_true d)
      · have q := p
        obtain ⟨b0, b1, b2, b3, b4, b5, b6, b7, b8⟩ := q
        have hn1 : n ≤ 9223372036854775807 := by
          have := of_wf hn; omega
        rw [decide_eq_false d, ossuarylaw18_PolicyTimes.j0, if_neg (by decide), policy_Lag_eq, ref_Lag_eq]
        simp only [Option.bind_some]
        rw [if_pos trivial, if_pos (by simp)]
        unfold policy_Cutoff.f ossuaryref18_Cutoff.f policy_Delay.f ossuaryref18_Delay.f
        simp only [Option.bind_some]
        rw [if_pos (mx_com _ _), if_pos (show 1 ≤ a5 ∧ a5 ≤ 1048576 ∧ 1 ≤ a6 ∧ a6 ≤ 1048576 ∧ n ≤ 9223372036854775807 from ⟨b5.1, b5.2, b6.1, b6.2, hn1⟩),
          ref_Delay_loop a6 a0 a1 a2 a3 a4 a5 a7 a8 n b6.2 1999999 _ a5 0 (by omega) (by omega) b5.1 (by omega) (by omega) (by omega)]
        simp only [Option.bind_some]
        rw [if_pos (by rw [Int.sub_zero]), alive18]; rfl
  · rw [if_neg p, if_neg (by decide)]; exact out _ rfl
end Go.Proofs.Ytjegkfdcelodeaa.Pure
