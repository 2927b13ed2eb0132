import Derived.Test.YtiokjjadpobciaaDs
namespace Go.Proofs.Ytiokjjadpobciaa.P
open Go.RowKit Go.Conc Go.Proofs.YtiokjjadpobciaaW.PrintWords Go.Proofs.YtiokjjadpobciaaW.PrintLast Go.Proofs.YtiokjjadpobciaaW.PrintMore
attribute [local go_sem] max2_int min2_int max_two min_two max_three min_three max_four min_four
set_option linter.unusedVariables false
set_option linter.unusedSimpArgs false
namespace Dd
set_option maxHeartbeats 8000000 in
set_option maxRecDepth 100000 in
theorem alive36.calls (w : World) :
    Calls Try.prog 11 #[] w fun e w' => e = .returned (.bool true) ∧ Below w.heap.size w w' := by
  go_enter Try.func11, Try.ntmps11
  go_wp2_with fail
  refine (Drive.calls 1 1 w).mono ?_
  rintro e w1 ⟨v, rfl, hr, hb⟩
  have hd : driveV 1 1 = [(4, 60), (5, 0)] := rfl
  rw [hd] at hr
  obtain ⟨g, c, rfl, -, hrg⟩ := R_range hr (by simp)
  have HB := Aside0.mk hb
  have h0 : w1.cell? ⟨g, 0, none⟩ = some (.int .i64 4) := hrg w1 (Below.refl _ _) 0 (by simp) 0 _ rfl
  have h1 : w1.cell? ⟨g, 1, none⟩ = some (.int .i64 60) := hrg w1 (Below.refl _ _) 0 (by simp) 1 _ rfl
  have h2 : w1.cell? ⟨g, 27, none⟩ = some (.int .i64 5) := hrg w1 (Below.refl _ _) 1 (by simp) 0 _ rfl
  clear hr hb hrg hd
  go_wp2
  go_ret
  exact ⟨rfl, HB.out⟩
end Dd
open Dd
def ossuarylaw36_DrillDrives.f (h j : Int) : Option Bool := some true
set_option maxHeartbeats 8000000 in
set_option maxRecDepth 100000 in
theorem ossuarylaw36_DrillDrives.walk (h j : Int) (w : World) :
    Calls Try.prog 3 #[.int .i64 h, .int .i64 j] w fun e w' => e = .returned (.bool true) ∧ Below w.heap.size w w' := by
  have hlen : (driveV h j).length ≤ 10000 := by
    unfold driveV jobsV
    simp only [List.length_cons, List.length_replicate]
    split <;> omega
  have hpos : 0 < (driveV h j).length := by unfold driveV; simp
  go_enter Try.func3, Try.ntmps3
  go_wp2_with fail
  refine (Drive.calls h j w).mono ?_
  rintro e w1 ⟨v1, rfl, hr1, hb1⟩
  have HR1 := Aside0.mk hr1
  have HB1 := Aside0.mk hb1
  clear hr1 hb1
  go_wp2_with fail
  refine (RDrive.calls h j w1).mono ?_
  rintro e w2 ⟨v2, rfl, hr2, hb2⟩
  have HR2 := Aside0.mk hr2
  have HR3 := Aside0.mk (Kd.R_below HR1.out hb2)
  have HB2 := Aside0.mk (below_step HB1.out hb2)
  clear hr2 hb2 HR1 HB1
  go_wp2_with fail
  refine (Same32.calls _ _ _ _ v1 v2 _ w2 HR3.out HR2.out hpos hlen).mono ?_
  rintro e w3 ⟨rfl, hb3⟩
  have HB3 := Aside0.mk (below_step HB2.out hb3)
  clear hb3 HB2 HR2 HR3
  go_wp2_with fail
  refine (alive36.calls _).mono ?_
  rintro e w4 ⟨rfl, hb4⟩
  have HB4 := Aside0.mk (below_step HB3.out hb4)
  clear hb4 HB3
  go_wp2
  go_ret
  exact ⟨rfl, HB4.out⟩
theorem ossuarylaw36_DrillDrives.calls (h j : Int) (r : Bool) (w : World) (hr : ossuarylaw36_DrillDrives.f h j = some r) :
    Calls Try.prog 3 #[.int .i64 h, .int .i64 j] w fun e w' => e = .returned (.bool r) ∧ Below w.heap.size w w' := by
  obtain rfl := Option.some.inj hr
  exact ossuarylaw36_DrillDrives.walk h j w
end Go.Proofs.Ytiokjjadpobciaa.P
