import Derived.Test.YtjegkfdcelodeaaLw1
namespace Go.Proofs.Ytjegkfdcelodeaa.P
open Go.RowKit Go.Proofs.YtjegkfdcelodeaaW.PrintWords Go.Proofs.YtjegkfdcelodeaaW.PrintLast Go.Proofs.YtjegkfdcelodeaaW.PrintMore
attribute [local go_sem] max2_int min2_int max_two min_two max_three min_three max_four min_four
set_option linter.unusedVariables false
set_option linter.unusedSimpArgs false
namespace Wr
set_option maxHeartbeats 8000000 in
set_option maxRecDepth 100000 in
theorem RNum_nil.calls (w : World) :
    Calls Try.prog 48 #[.pointer none] w fun e w' => e = .returned (.int .u64 0) ∧ Below w.heap.size w w' := by
  have hmf : ∀ (fn : Fn) (first cap : Array Value) (w : World), (Instr.makeFunc fn first cap).run Try.prog w = .ok (.func fn first cap) w := fun _ _ _ _ => rfl
  have HB := Aside0.mk (Below.refl w.heap.size w)
  go_enter Try.func48, Try.ntmps48
  go_wp2
  go_step3
  go_wp2
  go_step3
  go_wp2
  go_loopw [10] (fun x10 wr => x10 = .int .i64 0 ∧ Aside0 (Below w.heap.size w wr)) (fun x10 _ => 0)
  case atStart => exact ⟨rfl, HB⟩
  case round =>
    clear HB
    obtain ⟨rfl, HB⟩ := hrel
    go_wp2_with fail
    refine (take_nil.calls 1 _).mono ?_
    rintro e w1 ⟨rfl, hb1⟩
    have HB1 := Aside0.mk (HB.out.trans (hb1.mono HB.out.size))
    clear HB hb1
    go_wp2
    (try rw [Exit.noGoto_ret])
    go_ret
    exact ⟨rfl, HB1.out⟩
set_option maxHeartbeats 8000000 in
set_option maxRecDepth 100000 in
theorem RInt_nil.calls (w : World) :
    Calls Try.prog 49 #[.pointer none] w fun e w' => e = .returned (.int .i64 0) ∧ Below w.heap.size w w' := by
  have HB := Aside0.mk (Below.refl w.heap.size w)
  have hq1 : Go.bits .and .u64 0 1 = 0 := by decide +kernel
  have hq2 : Go.bits .xor .i64 0 0 = 0 := by decide +kernel
  go_enter Try.func49, Try.ntmps49
  go_wp2_with fail
  refine (RNum_nil.calls _).mono ?_
  rintro e w1 ⟨rfl, hb1⟩
  have HB1 := Aside0.mk (HB.out.trans (hb1.mono HB.out.size))
  clear HB hb1
  have HB := HB1
  clear HB1
  go_wp2
  go_ret
  exact ⟨rfl, HB.out⟩
set_option maxHeartbeats 8000000 in
set_option maxRecDepth 100000 in
theorem within_nil.calls (n : Int) (w : World) :
    Calls Try.prog 74 #[.pointer none, .int .i64 n] w fun e w' => e = .returned (.int .u64 0) ∧ Below w.heap.size w w' := by
  have HB := Aside0.mk (Below.refl w.heap.size w)
  have hw : ∀ m : Int, decide (IntKind.u64.wrap m < 0) = false := fun m => by rw [wrap_u64]; exact decide_eq_false (by omega)
  have hw2 : ∀ m : Int, (IntKind.u64.wrap m < 0) = False := fun m => by rw [wrap_u64]; exact eq_false (by omega)
  go_enter Try.func74, Try.ntmps74
  go_wp2_with fail
  refine (RNum_nil.calls _).mono ?_
  rintro e w1 ⟨rfl, hb1⟩
  have HB1 := Aside0.mk (HB.out.trans (hb1.mono HB.out.size))
  clear HB hb1
  have HB := HB1
  clear HB1
  go_wp2
  all_goals go_ret
  all_goals exact ⟨rfl, HB.out⟩
set_option maxHeartbeats 8000000 in
set_option maxRecDepth 100000 in
theorem Text_nil.calls (n : Int) (w : World) :
    Calls Try.prog 50 #[.pointer none, .int .i64 n] w fun e w' => e = .returned (.string { data := #[] }) ∧ Below w.heap.size w w' := by
  have HB := Aside0.mk (Below.refl w.heap.size w)
  have hcv : ∀ (w : World), (convert 32 9 (.slice none 0 0)).run Try.prog w = .ok (.string { data := #[] }) w := fun w => Kd.C_string (P := Try.prog) (w := w) (c := 0) Try.underlying32 Try.underlying5 Try.underlying9 (Kd.C_nil (Kd.int .u8) w)
  go_enter Try.func50, Try.ntmps50
  go_wp2_with fail
  refine (within_nil.calls n _).mono ?_
  rintro e w1 ⟨rfl, hb1⟩
  have HB1 := Aside0.mk (HB.out.trans (hb1.mono HB.out.size))
  clear HB hb1
  have HB := HB1
  clear HB1
  go_wp2_with fail
  refine (take_nil.calls 0 _).mono ?_
  rintro e w2 ⟨rfl, hb2⟩
  have HB2 := Aside0.mk (HB.out.trans (hb2.mono HB.out.size))
  clear HB hb2
  have HB := HB2
  clear HB2
  go_wp2
  go_ret
  exact ⟨rfl, HB.out⟩
set_option maxHeartbeats 8000000 in
set_option maxRecDepth 100000 in
theorem Bool_nil.calls (w : World) :
    Calls Try.prog 51 #[.pointer none] w fun e w' => e = .returned (.bool false) ∧ Below w.heap.size w w' := by
  have HB := Aside0.mk (Below.refl w.heap.size w)
  go_enter Try.func51, Try.ntmps51
  go_wp2_with fail
  refine (take_nil.calls 1 _).mono ?_
  rintro e w1 ⟨rfl, hb1⟩
  have HB1 := Aside0.mk (HB.out.trans (hb1.mono HB.out.size))
  clear HB hb1
  have HB := HB1
  clear HB1
  go_wp2
  go_ret
  exact ⟨rfl, HB.out⟩
set_option maxHeartbeats 8000000 in
set_option maxRecDepth 100000 in
theorem Count_nil.calls (n : Int) (w : World) :
    Calls Try.prog 52 #[.pointer none, .int .i64 n] w fun e w' => e = .returned (.int .i64 0) ∧ Below w.heap.size w w' := by
  have HB := Aside0.mk (Below.refl w.heap.size w)
  go_enter Try.func52, Try.ntmps52
  go_wp2_with fail
  refine (within_nil.calls n _).mono ?_
  rintro e w1 ⟨rfl, hb1⟩
  have HB1 := Aside0.mk (HB.out.trans (hb1.mono HB.out.size))
  clear HB hb1
  have HB := HB1
  clear HB1
  go_wp2
  go_ret
  exact ⟨rfl, HB.out⟩
set_option maxHeartbeats 8000000 in
set_option maxRecDepth 100000 in
theorem Left_nil.calls (w : World) :
    Calls Try.prog 47 #[.pointer none] w fun e w' => e = .returned (.int .i64 0) ∧ Below w.heap.size w w' := by
  have HB := Aside0.mk (Below.refl w.heap.size w)
  go_enter Try.func47, Try.ntmps47
  go_wp2
  go_ret
  exact ⟨rfl, HB.out⟩
set_option maxHeartbeats 8000000 in
set_option maxRecDepth 100000 in
theorem Fault_nil.calls (w : World) :
    Calls Try.prog 53 #[.pointer none] w fun e w' => e = .returned (.int .i64 3) ∧ Below w.heap.size w w' := by
  have HB := Aside0.mk (Below.refl w.heap.size w)
  go_enter Try.func53, Try.ntmps53
  go_wp2
  go_ret
  exact ⟨rfl, HB.out⟩
end Wr
def ossuarylaw01_PackNils.f (n : Int) : Option Bool := some true
set_option maxHeartbeats 8000000 in
set_option maxRecDepth 100000 in
theorem ossuarylaw01_PackNils.calls (n : Int) (r : Bool) (w : World) (h : ossuarylaw01_PackNils.f n = some r) :
    Calls Try.prog 10 #[.int .i64 n] w fun e w' => e = .returned (.bool r) ∧ Below w.heap.size w w' := by
  obtain rfl := Option.some.inj h
  have HB := Aside0.mk (Below.refl w.heap.size w)
  go_enter Try.func10, Try.ntmps10
  go_wp2_with fail
  refine (Wr.RNum_nil.calls _).mono ?_
  rintro e w1 ⟨rfl, hb1⟩
  have HB1 := Aside0.mk (HB.out.trans (hb1.mono HB.out.size))
  clear HB hb1
  have HB := HB1
  clear HB1
  go_wp2_with fail
  refine (Wr.RInt_nil.calls _).mono ?_
  rintro e w2 ⟨rfl, hb2⟩
  have HB2 := Aside0.mk (HB.out.trans (hb2.mono HB.out.size))
  clear HB hb2
  have HB := HB2
  clear HB2
  go_wp2_with fail
  refine (Wr.Text_nil.calls n _).mono ?_
  rintro e w3 ⟨rfl, hb3⟩
  have HB3 := Aside0.mk (HB.out.trans (hb3.mono HB.out.size))
  clear HB hb3
  have HB := HB3
  clear HB3
  go_wp2_with fail
  refine (Wr.Bool_nil.calls _).mono ?_
  rintro e w4 ⟨rfl, hb4⟩
  have HB4 := Aside0.mk (HB.out.trans (hb4.mono HB.out.size))
  clear HB hb4
  have HB := HB4
  clear HB4
  go_wp2_with fail
  refine (Wr.Count_nil.calls n _).mono ?_
  rintro e w5 ⟨rfl, hb5⟩
  have HB5 := Aside0.mk (HB.out.trans (hb5.mono HB.out.size))
  clear HB hb5
  have HB := HB5
  clear HB5
  go_wp2_with fail
  refine (Wr.Left_nil.calls _).mono ?_
  rintro e w6 ⟨rfl, hb6⟩
  have HB6 := Aside0.mk (HB.out.trans (hb6.mono HB.out.size))
  clear HB hb6
  have HB := HB6
  clear HB6
  go_wp2_with fail
  refine (Wr.Fault_nil.calls _).mono ?_
  rintro e w7 ⟨rfl, hb7⟩
  have HB7 := Aside0.mk (HB.out.trans (hb7.mono HB.out.size))
  clear HB hb7
  have HB := HB7
  clear HB7
  go_wp2_with fail
  refine (Wr.alive01.calls _).mono ?_
  rintro e w8 ⟨rfl, hb8⟩
  have HB8 := Aside0.mk (HB.out.trans (hb8.mono HB.out.size))
  clear HB hb8
  have HB := HB8
  clear HB8
  go_wp2
  go_ret
  exact ⟨rfl, HB.out⟩
end Go.Proofs.Ytjegkfdcelodeaa.P
