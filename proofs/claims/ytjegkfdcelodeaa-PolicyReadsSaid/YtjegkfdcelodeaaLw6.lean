import Derived.Test.YtjegkfdcelodeaaLw5
import Derived.Test.YtjegkfdcelodeaaPol
namespace Go.Proofs.Ytjegkfdcelodeaa.P
set_option linter.unusedVariables false
set_option linter.unusedSimpArgs false
open Go.RowKit Go.Proofs.Ytjegkfdcelodeaa.Pol Go.Proofs.YtjegkfdcelodeaaW.PrintWords Go.Proofs.YtjegkfdcelodeaaW.PrintLast Go.Proofs.YtjegkfdcelodeaaW.PrintMore
def ossuarylaw18_PolicyReads.f (l : List Int) : Option Bool := if ∀ x ∈ l, 0 ≤ x ∧ x < 256 then some true else none
open Wr in
theorem resP_some (s : List Int × Int) : ∃ a0 a1 a2 a3 a4 a5 a6 a7 a8 F, resP s = (polA a0 a1 a2 a3 a4 a5 a6 a7 a8, F) := by
  unfold resP
  split
  · exact ⟨_, _, _, _, _, _, _, _, _, _, rfl⟩
  split
  · exact ⟨_, _, _, _, _, _, _, _, _, _, rfl⟩
  split
  · exact ⟨_, _, _, _, _, _, _, _, _, _, rfl⟩
  · exact ⟨_, _, _, _, _, _, _, _, _, _, rfl⟩
open Wr in
theorem ossuarylaw18_PolicyReads.calls (A : Option Addr) (c : Nat) (l : List Int) (r : Bool) (w : World) (hC : Kd.C (Kd.int .u8) w A l.length l) (hc : l.length ≤ c) (h : ossuarylaw18_PolicyReads.f l = some r) :
    Calls Try.prog 9 #[.slice A l.length c] w fun e w' => e = .returned (.bool r) ∧ Below w.heap.size w w' := by
  unfold ossuarylaw18_PolicyReads.f at h
  split at h
  case isFalse => exact absurd h (by simp)
  rename_i hl
  obtain rfl := Option.some.inj h
  by_cases d : 200 < l.length
  · exact pr.long A c l w d alive18
  obtain ⟨a0, a1, a2, a3, a4, a5, a6, a7, a8, F, hr⟩ := resP_some (l, 0)
  have hk := (ref_Check_eq 1 (cvS (l, 0) 9 0) (cvS (l, 0) 9 1) (cvS (l, 0) 9 2) (cvS (l, 0) 9 3) (cvS (l, 0) 9 4) (cvS (l, 0) 9 5) (cvS (l, 0) 9 6) (cvS (l, 0) 9 7) (cvS (l, 0) 9 8) (by decide)).trans (policy_Check_eq (cvS (l, 0) 9 0) (cvS (l, 0) 9 1) (cvS (l, 0) 9 2) (cvS (l, 0) 9 3) (cvS (l, 0) 9 4) (cvS (l, 0) 9 5) (cvS (l, 0) 9 6) (cvS (l, 0) 9 7) (cvS (l, 0) 9 8)).symm
  have hne : ∀ ad, A = some ad → 0 < l.length → ad.block < w.heap.size := fun ad e hp => by subst e; exact Kd.C_lt hC hp (by decide)
  by_cases hF : F = 0
  · exact pr.good A c l a0 a1 a2 a3 a4 a5 a6 a7 a8 F 1 w hC hc hl (by omega) hr hF hne hk alive18
  · exact pr.bad A c l a0 a1 a2 a3 a4 a5 a6 a7 a8 F 1 w hC hc hl (by omega) hr hF hne hk alive18
end Go.Proofs.Ytjegkfdcelodeaa.P
