import Derived.Test.YtjegkfdcelodeaaPx9
import Derived.Test.YtjegkfdcelodeaaPx10
import Derived.Test.YtjegkfdcelodeaaPx12
import Derived.Test.YtjegkfdcelodeaaRd
namespace Go.Proofs.Ytjegkfdcelodeaa.P
open Go.RowKit Go.Proofs.YtjegkfdcelodeaaW.PrintWords Go.Proofs.YtjegkfdcelodeaaW.PrintLast Go.Proofs.YtjegkfdcelodeaaW.PrintMore
attribute [local go_sem] max2_int min2_int max_two min_two max_three min_three max_four min_four
set_option linter.unusedVariables false
set_option linter.unusedSimpArgs false
namespace Wr
theorem WrS.below {B g : Nat} {v : Value} {l : List Int} {w w' : World} (h : WrS B g v l w) (hb : Below w.heap.size w w') : WrS B g v l w' := ⟨blk_below h.blk hb, Kd.R_below h.row hb⟩
theorem RdP.below {g : Nat} {l : List Int} {f : Int} {w w' : World} (h : RdP g l f w) (hb : Below w.heap.size w w') : RdP g l f w' := by
  obtain ⟨A, c, h⟩ := h
  exact ⟨A, c, blk_below h.blk hb, h.cap, Kd.C_below h.row hb, h.under⟩
theorem RdP_new {v : Value} {l : List Int} {B : Nat} {w : World} (h : Kd.R (Kd.int .u8) 5 w B (fun _ => True) v l) (f : Int) : RdP w.heap.size l f (w.alloc (.cells #[v, .int .i64 f] 106 (0, 0))) := by
  obtain ⟨A, c, rfl, hc, hC⟩ := Kd.R_reads h
  refine ⟨A, c, blk_new w _, hc, Kd.C_alloc hC _, fun ad e hp => ?_⟩
  subst e
  exact Kd.R_lt h _ (by simp [Value.ownBlock])
set_option maxHeartbeats 8000000 in
set_option maxRecDepth 100000 in
theorem NewReader.calls (A0 : Option Addr) (c0 : Nat) (l : List Int) (w : World) (hr0 : Kd.C (Kd.int .u8) w A0 l.length l) (hc0 : l.length ≤ c0) (hl : l.length ≤ 1073741824) :
    Calls Try.prog 44 #[.slice A0 l.length c0] w fun e w' => ∃ g, e = .returned (.pointer (some ⟨g, 0, none⟩)) ∧ w.heap.size ≤ g ∧ RdP g l 0 w' ∧ Below w.heap.size w w' := by
  have HC := Aside0.mk hr0
  clear hr0
  go_enter Try.func44, Try.ntmps44
  go_wp2_with fail
  refine (Clone.calls A0 c0 l w HC.out hc0 hl).mono ?_
  rintro e w1 ⟨v1, rfl, ho, hb⟩
  have HR := Aside0.mk (RdP_new ho 0)
  have HB := Aside0.mk (hb.alloc hb.size (.cells #[v1, .int .i64 0] 106 (0, 0)))
  have HS := Aside0.mk hb.size
  obtain ⟨A1, c1, rfl⟩ := Kd.R_slice ho
  clear ho hb
  go_wp2
  go_ret
  exact ⟨_, rfl, HS.out, HR.out, HB.out⟩
def abL : List Int := [172, 2, 1, 2, 97, 98]
theorem abL_eq : (([] : List Int) ++ numB 300 ++ numB (zz (-1)) ++ numB ((ByteArray.size { data := #[97, 98] } : Nat) : Int) ++ bytesOf { data := #[97, 98] }) = abL := by
  have e1 : numB 300 = [172, 2] := by
    rw [numB, if_neg (by decide), numB, if_pos (by decide)]; rfl
  have e2 : numB (zz (-1)) = [1] := by
    rw [show zz (-1) = 1 from by decide, numB, if_pos (by decide)]
  have e3 : numB ((ByteArray.size { data := #[97, 98] } : Nat) : Int) = [2] := by
    rw [show ((ByteArray.size { data := #[97, 98] } : Nat) : Int) = 2 from rfl, numB, if_pos (by decide)]
  rw [e1, e2, e3]; rfl
set_option maxHeartbeats 8000000 in
set_option maxRecDepth 100000 in
theorem alive01.calls (w : World) :
    Calls Try.prog 30 #[] w fun e w' => e = .returned (.bool true) ∧ Below w.heap.size w w' := by
  have HW := Aside0.mk (show WrS w.heap.size w.heap.size (.slice none 0 0) [] (w.alloc (.cells #[.slice none 0 0] 40 (0, 0))) from ⟨blk_new w _, Kd.R_nil _ _ _ _ _⟩)
  have HB := Aside0.mk (show Below w.heap.size w (w.alloc (.cells #[.slice none 0 0] 40 (0, 0))) from (Below.refl _ w).alloc (Nat.le_refl _) _)
  have hg : w.heap.size ≤ w.heap.size := Nat.le_refl _
  go_enter Try.func30, Try.ntmps30
  go_wp2_with fail
  refine (Writer_Num.calls w.heap.size w.heap.size _ [] 300 w _ (by omega) (by omega) (by simp) HB.out hg HW.out).mono ?_
  rintro e w1 ⟨v1, rfl, hw1, hb1, -⟩
  have HW1 := Aside0.mk hw1
  have HB1 := Aside0.mk hb1
  clear hw1 hb1 HW HB
  have hl1 : (([] : List Int) ++ numB 300).length ≤ 10 := by simpa using numB_len 300 10 (by decide) (by omega)
  go_wp2_with fail
  refine (Writer_Int.calls w.heap.size w.heap.size v1 _ (-1) w w1 (by omega) (by omega) (by omega) HB1.out hg HW1.out).mono ?_
  rintro e w2 ⟨v2, rfl, hw2, hb2, -⟩
  have HW2 := Aside0.mk hw2
  have HB2 := Aside0.mk hb2
  clear hw2 hb2 HW1 HB1
  have hl2 : (([] : List Int) ++ numB 300 ++ numB (zz (-1))).length ≤ 20 := by have := numB_len (zz (-1)) 10 (by decide) (by omega); rw [List.length_append]; omega
  go_wp2_with fail
  refine (Writer_Text.calls w.heap.size w.heap.size v2 _ { data := #[97, 98] } w w2 (by decide) (by omega) HB2.out hg HW2.out).mono ?_
  rintro e w3 ⟨v3, rfl, hw3, hb3, -⟩
  rw [abL_eq] at hw3
  have HW3 := Aside0.mk hw3
  have HB3 := Aside0.mk hb3
  clear hw3 hb3 HW2 HB2
  go_wp2_with fail
  refine (Bytes.calls w.heap.size w.heap.size v3 abL w3 (by decide) HW3.out).mono ?_
  rintro e w4 ⟨v4, rfl, ho4, hb4⟩
  have HW4 := Aside0.mk (HW3.out.below hb4)
  have HB4 := Aside0.mk (HB3.out.trans (hb4.mono HB3.out.size))
  clear HW3 HB3 hb4
  obtain ⟨b, cap, rfl, -, -, -⟩ := Kd.R_form ho4 (by decide)
  obtain ⟨-, hcap, hC⟩ := Kd.R_reads' ho4
  have HC4 := Aside0.mk (show Kd.C (Kd.int .u8) w4 (some ⟨b, 0, none⟩) abL.length abL from hC)
  have k0 : w4.cell? ⟨b, 0, none⟩ = some (.int .u8 172) := by obtain ⟨ad, e, h⟩ := Kd.at_int hC 0 (by omega) (by decide); injection e with e; subst e; exact h
  have k1 : w4.cell? ⟨b, 1, none⟩ = some (.int .u8 2) := by obtain ⟨ad, e, h⟩ := Kd.at_int hC 1 (by omega) (by decide); injection e with e; subst e; exact h
  have k2 : w4.cell? ⟨b, 2, none⟩ = some (.int .u8 1) := by obtain ⟨ad, e, h⟩ := Kd.at_int hC 2 (by omega) (by decide); injection e with e; subst e; exact h
  have k3 : w4.cell? ⟨b, 3, none⟩ = some (.int .u8 2) := by obtain ⟨ad, e, h⟩ := Kd.at_int hC 3 (by omega) (by decide); injection e with e; subst e; exact h
  have k5 : w4.cell? ⟨b, 5, none⟩ = some (.int .u8 98) := by obtain ⟨ad, e, h⟩ := Kd.at_int hC 5 (by omega) (by decide); injection e with e; subst e; exact h
  have hl6 : abL.length = 6 := rfl
  rw [hl6] at hcap ⊢
  clear ho4 hC
  go_wp2_with fail
  refine (Len.calls w.heap.size w.heap.size v3 abL w4 HW4.out).mono ?_
  rintro e w5 ⟨rfl, hb5⟩
  have HC5 := Aside0.mk (Kd.C_below HC4.out hb5)
  have HB5 := Aside0.mk (HB4.out.trans (hb5.mono HB4.out.size))
  clear hb5 HC4 HB4 HW4 k0 k1 k2 k3 k5
  go_wp2_with fail
  refine (NewReader.calls (some ⟨b, 0, none⟩) cap abL w5 HC5.out hcap (by decide)).mono ?_
  rintro e w6 ⟨g6, rfl, hg6, hr6, hb6⟩
  have HR6 := Aside0.mk hr6
  have HB6 := Aside0.mk (HB5.out.trans (hb6.mono HB5.out.size))
  have hg6' : w.heap.size ≤ g6 := Nat.le_trans HB5.out.size hg6
  clear hr6 hb6 HB5 HC5
  go_wp2_with fail
  refine (Reader_Num.calls w.heap.size g6 abL 0 w w6 (by decide) HB6.out hg6' HR6.out).mono ?_
  rw [if_pos rfl, show rdNum 10 0 0 abL = (300, [1, 2, 97, 98], 0) from by decide]
  rintro e w7 ⟨rfl, -, hb7, -⟩
  have HB7 := Aside0.mk hb7
  clear hb7 HB6 HR6
  go_wp2
  go_ret
  exact ⟨rfl, HB7.out⟩
end Wr
def ossuarylaw01_PackNums.f (k : Nat) (a0 : Int) : Option Bool := if (0 ≤ a0 ∧ a0 < 18446744073709551616) ∧ ossuaryref01_Num.f k a0 = some (Wr.numB (a0)) then some true else none
set_option maxHeartbeats 8000000 in
set_option maxRecDepth 100000 in
theorem ossuarylaw01_PackNums.walk (k : Nat) (a0 : Int) (w : World) (h0 : 0 ≤ a0 ∧ a0 < 18446744073709551616) (h : ossuaryref01_Num.f k a0 = some (Wr.numB (a0))) :
    Calls Try.prog 5 #[.int .u64 a0] w fun e w' => e = .returned (.bool true) ∧ Below w.heap.size w w' := by
  have H := Aside0.mk h
  clear h
  have HW := Aside0.mk (show Wr.WrS w.heap.size w.heap.size (.slice none 0 0) [] (w.alloc (.cells #[.slice none 0 0] 40 (0, 0))) from ⟨blk_new w _, Kd.R_nil _ _ _ _ _⟩)
  have HB := Aside0.mk (show Below w.heap.size w (w.alloc (.cells #[.slice none 0 0] 40 (0, 0))) from (Below.refl _ w).alloc (Nat.le_refl _) _)
  have hg : w.heap.size ≤ w.heap.size := Nat.le_refl _
  have hzz : 0 ≤ a0 ∧ a0 < 18446744073709551616 := by omega
  have hl1 : (([] : List Int) ++ Wr.numB (a0)).length ≤ 10 := by simpa using Wr.numB_len (a0) 10 (by omega) (by omega)
  go_enter Try.func5, Try.ntmps5
  go_wp2_with fail
  refine (Wr.Writer_Num.calls w.heap.size w.heap.size _ [] a0 w _ (by omega) (by omega) (by simp) HB.out hg HW.out).mono ?_
  rintro e w1 ⟨v1, rfl, hw1, hb1, -⟩
  have HW1 := Aside0.mk hw1
  have HB1 := Aside0.mk hb1
  clear hw1 hb1 HW HB
  go_wp2_with fail
  refine (Wr.Bytes.calls w.heap.size w.heap.size v1 _ w1 (by omega) HW1.out).mono ?_
  rintro e w2 ⟨v2, rfl, ho2, hb2⟩
  have HO2 := Aside0.mk ho2
  have HB2 := Aside0.mk (HB1.out.trans (hb2.mono HB1.out.size))
  clear ho2 hb2 HW1 HB1
  go_wp2_with fail
  refine (ossuaryref01_Num.calls k a0 _ w2 H.out).mono ?_
  rintro e w3 ⟨v3, rfl, ho3, hb3⟩
  have ho2 := Kd.R_below HO2.out hb3
  have HB3 := Aside0.mk (HB2.out.trans (hb3.mono HB2.out.size))
  obtain ⟨A2, c2, rfl, hc2, hC2⟩ := Kd.R_reads ho2
  obtain ⟨A3, c3, rfl, hc3, hC3⟩ := Kd.R_reads ho3
  have K2 := Aside0.mk hC2
  have K3 := Aside0.mk hC3
  clear hC2 hC3 ho2 ho3 hb3 HO2 HB2
  have hsame : ossuaryref01_Same.f (([] : List Int) ++ Wr.numB (a0)) (Wr.numB (a0)) = some true := by
    unfold ossuaryref01_Same.f; simp
  go_wp2_with fail
  refine (ossuaryref01_Same.calls A2 c2 _ A3 c3 _ true w3 K2.out hc2 K3.out hc3 hsame).mono ?_
  rintro e w4 ⟨rfl, ⟨nd, rfl⟩⟩
  have HB4 := Aside0.mk (pw_below_drewN HB3.out nd)
  clear HB3 K2 K3
  go_wp2_with fail
  refine (Wr.alive01.calls _).mono ?_
  rintro e w5 ⟨rfl, hb5⟩
  have HB5 := Aside0.mk (HB4.out.trans (hb5.mono HB4.out.size))
  clear HB4 hb5
  go_wp2
  go_ret
  exact ⟨rfl, HB5.out⟩
theorem ossuarylaw01_PackNums.calls (k : Nat) (a0 : Int) (r : Bool) (w : World) (h : ossuarylaw01_PackNums.f k a0 = some r) :
    Calls Try.prog 5 #[.int .u64 a0] w fun e w' => e = .returned (.bool r) ∧ Below w.heap.size w w' := by
  unfold ossuarylaw01_PackNums.f at h
  split at h
  case isFalse => exact absurd h (by simp)
  rename_i hc
  obtain rfl := Option.some.inj h
  exact ossuarylaw01_PackNums.walk k a0 w hc.1 hc.2
def ossuarylaw01_PackInts.f (k : Nat) (a0 : Int) : Option Bool := if (-9223372036854775808 ≤ a0 ∧ a0 < 9223372036854775808) ∧ ossuaryref01_Int.f k a0 = some (Wr.numB (Wr.zz a0)) then some true else none
set_option maxHeartbeats 8000000 in
set_option maxRecDepth 100000 in
theorem ossuarylaw01_PackInts.walk (k : Nat) (a0 : Int) (w : World) (h0 : -9223372036854775808 ≤ a0 ∧ a0 < 9223372036854775808) (h : ossuaryref01_Int.f k a0 = some (Wr.numB (Wr.zz a0))) :
    Calls Try.prog 6 #[.int .i64 a0] w fun e w' => e = .returned (.bool true) ∧ Below w.heap.size w w' := by
  have H := Aside0.mk h
  clear h
  have HW := Aside0.mk (show Wr.WrS w.heap.size w.heap.size (.slice none 0 0) [] (w.alloc (.cells #[.slice none 0 0] 40 (0, 0))) from ⟨blk_new w _, Kd.R_nil _ _ _ _ _⟩)
  have HB := Aside0.mk (show Below w.heap.size w (w.alloc (.cells #[.slice none 0 0] 40 (0, 0))) from (Below.refl _ w).alloc (Nat.le_refl _) _)
  have hg : w.heap.size ≤ w.heap.size := Nat.le_refl _
  have hzz : 0 ≤ Wr.zz a0 ∧ Wr.zz a0 < 18446744073709551616 := by unfold Wr.zz; split <;> omega
  have hl1 : (([] : List Int) ++ Wr.numB (Wr.zz a0)).length ≤ 10 := by simpa using Wr.numB_len (Wr.zz a0) 10 (by omega) (by omega)
  go_enter Try.func6, Try.ntmps6
  go_wp2_with fail
  refine (Wr.Writer_Int.calls w.heap.size w.heap.size _ [] a0 w _ (by omega) (by omega) (by simp) HB.out hg HW.out).mono ?_
  rintro e w1 ⟨v1, rfl, hw1, hb1, -⟩
  have HW1 := Aside0.mk hw1
  have HB1 := Aside0.mk hb1
  clear hw1 hb1 HW HB
  go_wp2_with fail
  refine (Wr.Bytes.calls w.heap.size w.heap.size v1 _ w1 (by omega) HW1.out).mono ?_
  rintro e w2 ⟨v2, rfl, ho2, hb2⟩
  have HO2 := Aside0.mk ho2
  have HB2 := Aside0.mk (HB1.out.trans (hb2.mono HB1.out.size))
  clear ho2 hb2 HW1 HB1
  go_wp2_with fail
  refine (ossuaryref01_Int.calls k a0 _ w2 H.out).mono ?_
  rintro e w3 ⟨v3, rfl, ho3, hb3⟩
  have ho2 := Kd.R_below HO2.out hb3
  have HB3 := Aside0.mk (HB2.out.trans (hb3.mono HB2.out.size))
  obtain ⟨A2, c2, rfl, hc2, hC2⟩ := Kd.R_reads ho2
  obtain ⟨A3, c3, rfl, hc3, hC3⟩ := Kd.R_reads ho3
  have K2 := Aside0.mk hC2
  have K3 := Aside0.mk hC3
  clear hC2 hC3 ho2 ho3 hb3 HO2 HB2
  have hsame : ossuaryref01_Same.f (([] : List Int) ++ Wr.numB (Wr.zz a0)) (Wr.numB (Wr.zz a0)) = some true := by
    unfold ossuaryref01_Same.f; simp
  go_wp2_with fail
  refine (ossuaryref01_Same.calls A2 c2 _ A3 c3 _ true w3 K2.out hc2 K3.out hc3 hsame).mono ?_
  rintro e w4 ⟨rfl, ⟨nd, rfl⟩⟩
  have HB4 := Aside0.mk (pw_below_drewN HB3.out nd)
  clear HB3 K2 K3
  go_wp2_with fail
  refine (Wr.alive01.calls _).mono ?_
  rintro e w5 ⟨rfl, hb5⟩
  have HB5 := Aside0.mk (HB4.out.trans (hb5.mono HB4.out.size))
  clear HB4 hb5
  go_wp2
  go_ret
  exact ⟨rfl, HB5.out⟩
theorem ossuarylaw01_PackInts.calls (k : Nat) (a0 : Int) (r : Bool) (w : World) (h : ossuarylaw01_PackInts.f k a0 = some r) :
    Calls Try.prog 6 #[.int .i64 a0] w fun e w' => e = .returned (.bool r) ∧ Below w.heap.size w w' := by
  unfold ossuarylaw01_PackInts.f at h
  split at h
  case isFalse => exact absurd h (by simp)
  rename_i hc
  obtain rfl := Option.some.inj h
  exact ossuarylaw01_PackInts.walk k a0 w hc.1 hc.2
end Go.Proofs.Ytjegkfdcelodeaa.P

namespace Go.Proofs.Ytjegkfdcelodeaa.P
open Go.RowKit Go.Proofs.YtjegkfdcelodeaaW.PrintWords Go.Proofs.YtjegkfdcelodeaaW.PrintLast Go.Proofs.YtjegkfdcelodeaaW.PrintMore
attribute [local go_sem] max2_int min2_int max_two min_two max_three min_three max_four min_four
set_option linter.unusedVariables false
set_option linter.unusedSimpArgs false
namespace Wr
set_option maxHeartbeats 8000000 in
set_option maxRecDepth 100000 in
theorem RNum_nil.calls (w : World) :
    Calls Try.prog 48 #[.pointer none] w fun e w' => e = .returned (.int .u64 0) ∧ Below w.heap.size w w' := by
  have hmf : ∀ (fn : Fn) (first cap : Array Value) (w : World), (Instr.makeFunc fn first cap).run Try.prog w = .ok (.func fn first cap) w := fun _ _ _ _ => rfl
  have HB := Aside0.mk (Below.refl w.heap.size w)
  go_enter Try.func48, Try.ntmps48
  go_wp2
  go_step3
  go_wp2
  go_step3
  go_wp2
  go_loopw [10] (fun x10 wr => x10 = .int .i64 0 ∧ Aside0 (Below w.heap.size w wr)) (fun x10 _ => 0)
  case atStart => exact ⟨rfl, HB⟩
  case round =>
    clear HB
    obtain ⟨rfl, HB⟩ := hrel
    go_wp2_with fail
    refine (take_nil.calls 1 _).mono ?_
    rintro e w1 ⟨rfl, hb1⟩
    have HB1 := Aside0.mk (HB.out.trans (hb1.mono HB.out.size))
    clear HB hb1
    go_wp2
    (try rw [Exit.noGoto_ret])
    go_ret
    exact ⟨rfl, HB1.out⟩
set_option maxHeartbeats 8000000 in
set_option maxRecDepth 100000 in
theorem RInt_nil.calls (w : World) :
    Calls Try.prog 49 #[.pointer none] w fun e w' => e = .returned (.int .i64 0) ∧ Below w.heap.size w w' := by
  have HB := Aside0.mk (Below.refl w.heap.size w)
  have hq1 : Go.bits .and .u64 0 1 = 0 := by decide +kernel
  have hq2 : Go.bits .xor .i64 0 0 = 0 := by decide +kernel
  go_enter Try.func49, Try.ntmps49
  go_wp2_with fail
  refine (RNum_nil.calls _).mono ?_
  rintro e w1 ⟨rfl, hb1⟩
  have HB1 := Aside0.mk (HB.out.trans (hb1.mono HB.out.size))
  clear HB hb1
  have HB := HB1
  clear HB1
  go_wp2
  go_ret
  exact ⟨rfl, HB.out⟩
set_option maxHeartbeats 8000000 in
set_option maxRecDepth 100000 in
theorem within_nil.calls (n : Int) (w : World) :
    Calls Try.prog 74 #[.pointer none, .int .i64 n] w fun e w' => e = .returned (.int .u64 0) ∧ Below w.heap.size w w' := by
  have HB := Aside0.mk (Below.refl w.heap.size w)
  have hw : ∀ m : Int, decide (IntKind.u64.wrap m < 0) = false := fun m => by rw [wrap_u64]; exact decide_eq_false (by omega)
  have hw2 : ∀ m : Int, (IntKind.u64.wrap m < 0) = False := fun m => by rw [wrap_u64]; exact eq_false (by omega)
  go_enter Try.func74, Try.ntmps74
  go_wp2_with fail
  refine (RNum_nil.calls _).mono ?_
  rintro e w1 ⟨rfl, hb1⟩
  have HB1 := Aside0.mk (HB.out.trans (hb1.mono HB.out.size))
  clear HB hb1
  have HB := HB1
  clear HB1
  go_wp2
  all_goals go_ret
  all_goals exact ⟨rfl, HB.out⟩
set_option maxHeartbeats 8000000 in
set_option maxRecDepth 100000 in
theorem Text_nil.calls (n : Int) (w : World) :
    Calls Try.prog 50 #[.pointer none, .int .i64 n] w fun e w' => e = .returned (.string { data := #[] }) ∧ Below w.heap.size w w' := by
  have HB := Aside0.mk (Below.refl w.heap.size w)
  have hcv : ∀ (w : World), (convert 32 9 (.slice none 0 0)).run Try.prog w = .ok (.string { data := #[] }) w := fun w => Kd.C_string (P := Try.prog) (w := w) (c := 0) Try.underlying32 Try.underlying5 Try.underlying9 (Kd.C_nil (Kd.int .u8) w)
  go_enter Try.func50, Try.ntmps50
  go_wp2_with fail
  refine (within_nil.calls n _).mono ?_
  rintro e w1 ⟨rfl, hb1⟩
  have HB1 := Aside0.mk (HB.out.trans (hb1.mono HB.out.size))
  clear HB hb1
  have HB := HB1
  clear HB1
  go_wp2_with fail
  refine (take_nil.calls 0 _).mono ?_
  rintro e w2 ⟨rfl, hb2⟩
  have HB2 := Aside0.mk (HB.out.trans (hb2.mono HB.out.size))
  clear HB hb2
  have HB := HB2
  clear HB2
  go_wp2
  go_ret
  exact ⟨rfl, HB.out⟩
set_option maxHeartbeats 8000000 in
set_option maxRecDepth 100000 in
theorem Bool_nil.calls (w : World) :
    Calls Try.prog 51 #[.pointer none] w fun e w' => e = .returned (.bool false) ∧ Below w.heap.size w w' := by
  have HB := Aside0.mk (Below.refl w.heap.size w)
  go_enter Try.func51, Try.ntmps51
  go_wp2_with fail
  refine (take_nil.calls 1 _).mono ?_
  rintro e w1 ⟨rfl, hb1⟩
  have HB1 := Aside0.mk (HB.out.trans (hb1.mono HB.out.size))
  clear HB hb1
  have HB := HB1
  clear HB1
  go_wp2
  go_ret
  exact ⟨rfl, HB.out⟩
set_option maxHeartbeats 8000000 in
set_option maxRecDepth 100000 in
theorem Count_nil.calls (n : Int) (w : World) :
    Calls Try.prog 52 #[.pointer none, .int .i64 n] w fun e w' => e = .returned (.int .i64 0) ∧ Below w.heap.size w w' := by
  have HB := Aside0.mk (Below.refl w.heap.size w)
  go_enter Try.func52, Try.ntmps52
  go_wp2_with fail
  refine (within_nil.calls n _).mono ?_
  rintro e w1 ⟨rfl, hb1⟩
  have HB1 := Aside0.mk (HB.out.trans (hb1.mono HB.out.size))
  clear HB hb1
  have HB := HB1
  clear HB1
  go_wp2
  go_ret
  exact ⟨rfl, HB.out⟩
set_option maxHeartbeats 8000000 in
set_option maxRecDepth 100000 in
theorem Left_nil.calls (w : World) :
    Calls Try.prog 47 #[.pointer none] w fun e w' => e = .returned (.int .i64 0) ∧ Below w.heap.size w w' := by
  have HB := Aside0.mk (Below.refl w.heap.size w)
  go_enter Try.func47, Try.ntmps47
  go_wp2
  go_ret
  exact ⟨rfl, HB.out⟩
set_option maxHeartbeats 8000000 in
set_option maxRecDepth 100000 in
theorem Fault_nil.calls (w : World) :
    Calls Try.prog 53 #[.pointer none] w fun e w' => e = .returned (.int .i64 3) ∧ Below w.heap.size w w' := by
  have HB := Aside0.mk (Below.refl w.heap.size w)
  go_enter Try.func53, Try.ntmps53
  go_wp2
  go_ret
  exact ⟨rfl, HB.out⟩
end Wr
def ossuarylaw01_PackNils.f (n : Int) : Option Bool := some true
set_option maxHeartbeats 8000000 in
set_option maxRecDepth 100000 in
theorem ossuarylaw01_PackNils.calls (n : Int) (r : Bool) (w : World) (h : ossuarylaw01_PackNils.f n = some r) :
    Calls Try.prog 10 #[.int .i64 n] w fun e w' => e = .returned (.bool r) ∧ Below w.heap.size w w' := by
  obtain rfl := Option.some.inj h
  have HB := Aside0.mk (Below.refl w.heap.size w)
  go_enter Try.func10, Try.ntmps10
  go_wp2_with fail
  refine (Wr.RNum_nil.calls _).mono ?_
  rintro e w1 ⟨rfl, hb1⟩
  have HB1 := Aside0.mk (HB.out.trans (hb1.mono HB.out.size))
  clear HB hb1
  have HB := HB1
  clear HB1
  go_wp2_with fail
  refine (Wr.RInt_nil.calls _).mono ?_
  rintro e w2 ⟨rfl, hb2⟩
  have HB2 := Aside0.mk (HB.out.trans (hb2.mono HB.out.size))
  clear HB hb2
  have HB := HB2
  clear HB2
  go_wp2_with fail
  refine (Wr.Text_nil.calls n _).mono ?_
  rintro e w3 ⟨rfl, hb3⟩
  have HB3 := Aside0.mk (HB.out.trans (hb3.mono HB.out.size))
  clear HB hb3
  have HB := HB3
  clear HB3
  go_wp2_with fail
  refine (Wr.Bool_nil.calls _).mono ?_
  rintro e w4 ⟨rfl, hb4⟩
  have HB4 := Aside0.mk (HB.out.trans (hb4.mono HB.out.size))
  clear HB hb4
  have HB := HB4
  clear HB4
  go_wp2_with fail
  refine (Wr.Count_nil.calls n _).mono ?_
  rintro e w5 ⟨rfl, hb5⟩
  have HB5 := Aside0.mk (HB.out.trans (hb5.mono HB.out.size))
  clear HB hb5
  have HB := HB5
  clear HB5
  go_wp2_with fail
  refine (Wr.Left_nil.calls _).mono ?_
  rintro e w6 ⟨rfl, hb6⟩
  have HB6 := Aside0.mk (HB.out.trans (hb6.mono HB.out.size))
  clear HB hb6
  have HB := HB6
  clear HB6
  go_wp2_with fail
  refine (Wr.Fault_nil.calls _).mono ?_
  rintro e w7 ⟨rfl, hb7⟩
  have HB7 := Aside0.mk (HB.out.trans (hb7.mono HB.out.size))
  clear HB hb7
  have HB := HB7
  clear HB7
  go_wp2_with fail
  refine (Wr.alive01.calls _).mono ?_
  rintro e w8 ⟨rfl, hb8⟩
  have HB8 := Aside0.mk (HB.out.trans (hb8.mono HB.out.size))
  clear HB hb8
  have HB := HB8
  clear HB8
  go_wp2
  go_ret
  exact ⟨rfl, HB.out⟩
end Go.Proofs.Ytjegkfdcelodeaa.P
