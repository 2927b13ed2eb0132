import Derived.Test.YtjegkfdcelodeaaLw3
import Derived.Test.YtjegkfdcelodeaaBak
namespace Go.Proofs.Ytjegkfdcelodeaa.P
set_option linter.unusedVariables false
set_option linter.unusedSimpArgs false
open Go.RowKit Go.Proofs.Ytjegkfdcelodeaa.Pol Go.Proofs.YtjegkfdcelodeaaW.PrintWords Go.Proofs.YtjegkfdcelodeaaW.PrintLast Go.Proofs.YtjegkfdcelodeaaW.PrintMore
def ossuarylaw18_PolicyBack.f (a0 a1 a2 a3 a4 a5 a6 a7 a8 xa xb : Int) : Option Bool := if xa ≤ 9223372036854775807 ∧ xb ≤ 9223372036854775807 then some true else none
theorem ossuarylaw18_PolicyBack.calls (a0 a1 a2 a3 a4 a5 a6 a7 a8 xa xb : Int) (r : Bool) (w : World) (h : ossuarylaw18_PolicyBack.f a0 a1 a2 a3 a4 a5 a6 a7 a8 xa xb = some r) :
    Calls Try.prog 12 #[.agg #[.int .i64 a0, .int .i64 a1, .int .i64 a2, .int .i64 a3, .int .i64 a4, .int .i64 a5, .int .i64 a6, .int .i64 a7, .int .i64 a8], .int .i64 xa, .int .i64 xb] w fun e w' => e = .returned (.bool r) ∧ Below w.heap.size w w' := by
  unfold ossuarylaw18_PolicyBack.f at h
  split at h
  case isFalse => exact absurd h (by simp)
  rename_i hab
  obtain rfl := Option.some.inj h
  have hE := policy_Encode_eq a0 a1 a2 a3 a4 a5 a6 a7 a8
  have hC := policy_Check_eq a0 a1 a2 a3 a4 a5 a6 a7 a8
  unfold encO at hE
  by_cases p : polP a0 a1 a2 a3 a4 a5 a6 a7 a8
  · rw [if_pos p] at hE
    have hb := polL_bd _ _ _ _ _ _ _ _ _ p
    have hby := encL_byte _ hb 9 0 rfl
    have q := p
    obtain ⟨b0, b1, b2, b3, b4, b5, b6, b7, b8⟩ := q
    have h1 : mn xa xb ≤ 9223372036854775807 := by unfold mn; split <;> omega
    have h2 : mx xa xb ≤ 9223372036854775807 := by unfold mx; split <;> omega
    have h12 : mn xa xb ≤ mx xa xb := by unfold mn mx; split <;> omega
    have hm : policy_Delay.f a0 a1 a2 a3 a4 a5 a6 a7 a8 (mn xa xb) = some (mn (dlv a6 a5 (mn xa xb)) a6) := if_pos ⟨b5.1, b5.2, b6.1, b6.2, h1⟩
    have hn : policy_Delay.f a0 a1 a2 a3 a4 a5 a6 a7 a8 (mx xa xb) = some (mn (dlv a6 a5 (mx xa xb)) a6) := if_pos ⟨b5.1, b5.2, b6.1, b6.2, h2⟩
    have g := dlv_ge a6 (a6 - a5).toNat a5 (mn xa xb) (Nat.le_refl _) b5.1
    refine pb.good a0 a1 a2 a3 a4 a5 a6 a7 a8 xa xb _ _ _ w hE (by have := hby.2; omega) hby.1 (res_enc _ _ _ _ _ _ _ _ _ p) (st_enc _ hb 9 (by omega)) hm hn ?_ (dlv_mono a6 _ a5 _ _ (Nat.le_refl _) b5.1 h12) ?_ alive18
    · generalize dlv a6 a5 (mn xa xb) = y at *
      unfold mn; split <;> omega
    · generalize dlv a6 a5 (mx xa xb) = y at *
      unfold mn; split <;> omega
  · rw [if_neg p] at hE hC
    exact pb.bad a0 a1 a2 a3 a4 a5 a6 a7 a8 xa xb 2 w hE hC (by decide) alive18
end Go.Proofs.Ytjegkfdcelodeaa.P
