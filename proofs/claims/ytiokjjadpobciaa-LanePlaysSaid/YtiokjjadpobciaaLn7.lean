import Derived.Test.YtiokjjadpobciaaLn6
namespace Go.Proofs.Ytiokjjadpobciaa.P
open Go.RowKit Go.Conc Go.Proofs.YtiokjjadpobciaaW.PrintWords Go.Proofs.YtiokjjadpobciaaW.PrintLast Go.Proofs.YtiokjjadpobciaaW.PrintMore
attribute [local go_sem] max2_int min2_int max_two min_two max_three min_three max_four min_four
set_option linter.unusedVariables false
set_option linter.unusedSimpArgs false
namespace Ln
set_option maxHeartbeats 8000000 in
set_option maxRecDepth 100000 in
theorem alive.calls (w : World) :
    Calls Try.prog 12 #[] w fun e w' => e = .returned (.bool true) ∧ Below w.heap.size w w' := by
  go_enter Try.func12, Try.ntmps12
  go_wp2_with fail
  refine (New_ok.calls 2 3 _ (by omega)).mono ?_
  rintro e w1 ⟨g, rfl, hg, hl, hb⟩
  have HL1 := Aside0.mk hl
  have HB1 := Aside0.mk hb
  clear hl hb
  go_wp2_with fail
  refine (Put.calls _ g 3 (List.replicate 2 []) 1 7 _ w1 HB1.out HL1.out).mono ?_
  rintro e w2 ⟨rfl, hl⟩
  have HL2 := Aside0.mk hl.1
  have HB2 := Aside0.mk hl.2.1
  clear hl HL1 HB1
  go_wp2_with fail
  refine (Put.calls _ g 3 _ 0 9 _ w2 HB2.out HL2.out).mono ?_
  rintro e w3 ⟨rfl, hl⟩
  have HL3 := Aside0.mk hl.1
  have HB3 := Aside0.mk hl.2.1
  clear hl HL2 HB2
  go_wp2_with fail
  refine (Take.calls _ g 3 _ _ w3 HB3.out HL3.out).mono ?_
  rintro e w4 ⟨rfl, hl⟩
  have HL4 := Aside0.mk (show LnP _ g 3 [[], [7]] w4 from hl.1)
  have HB4 := Aside0.mk hl.2.1
  clear hl HL3 HB3
  have e1 : (takeV (putV 3 (putV 3 (List.replicate 2 []) 1 7).2 0 9).2.length 0 (putV 3 (putV 3 (List.replicate 2 []) 1 7).2 0 9).2) = (0, 9, true, [[], [7]]) := rfl
  rw [e1]
  go_wp2_with fail
  refine (Len.calls _ g 3 _ 1 w4 HL4.out).mono ?_
  rintro e w5 ⟨rfl, rfl⟩
  have e2 : lenV [[], [7]] 1 = 1 := rfl
  rw [e2]
  go_wp2
  go_ret
  exact ⟨rfl, HB4.out⟩
end Ln
end Go.Proofs.Ytiokjjadpobciaa.P
