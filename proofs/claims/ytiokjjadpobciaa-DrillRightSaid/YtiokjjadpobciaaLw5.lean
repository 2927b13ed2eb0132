import Derived.Test.YtiokjjadpobciaaDrG
import Derived.Test.YtiokjjadpobciaaLw3
namespace Go.Proofs.Ytiokjjadpobciaa.P
open Go.RowKit Go.Conc Go.Proofs.YtiokjjadpobciaaW.PrintWords Go.Proofs.YtiokjjadpobciaaW.PrintLast Go.Proofs.YtiokjjadpobciaaW.PrintMore
attribute [local go_sem] max2_int min2_int max_two min_two max_three min_three max_four min_four
set_option linter.unusedVariables false
set_option linter.unusedSimpArgs false
open Ln Dr
set_option maxHeartbeats 8000000 in
set_option maxRecDepth 100000 in
theorem right_bad.walk (kind seed n : Int) (w : World) (h : kind < 0 ∨ 3 < kind ∨ n < 0 ∨ 300 < n) :
    Calls Try.prog 7 #[.int .i64 kind, .int .u64 seed, .int .i64 n] w fun e w' => e = .returned (.bool true) ∧ Below w.heap.size w w' := by
  go_enter Try.func7, Try.ntmps7
  go_wp2_with fail
  refine (Steps_bad.calls kind seed n w h).mono ?_
  rintro e w1 ⟨rfl, hb1⟩
  have HB1 := Aside0.mk hb1
  clear hb1
  go_wp2_with fail
  refine (Steps_bad.calls kind seed n w1 h).mono ?_
  rintro e w2 ⟨rfl, hb2⟩
  have HB2 := Aside0.mk (below_step HB1.out hb2)
  clear hb2 HB1 h
  go_wp2_with fail
  refine (Same_nil.calls none none 0 0 w2).mono ?_
  rintro e w3 ⟨rfl, hb3⟩
  have HB3 := Aside0.mk (below_step HB2.out hb3)
  clear hb3 HB2
  go_wp2_with fail
  go_loopw [11] (fun x11 wr => x11 = .int .i64 0 ∧ wr = w3) (fun _ _ => 0)
  case atStart => exact ⟨rfl, rfl⟩
  case round =>
    obtain ⟨rfl, rfl⟩ := hrel
    go_wp2_with fail
    refine (Dd.alive36.calls _).mono ?_
    rintro e w4 ⟨rfl, hb4⟩
    have HB4 := Aside0.mk (below_step HB3.out hb4)
    clear hb4 HB3
    go_wp2
    go_ret
    exact ⟨rfl, HB4.out⟩
set_option maxHeartbeats 8000000 in
set_option maxRecDepth 100000 in
theorem right_ok.walk (kind seed : Int) (n : Nat) (w : World) (h0 : 0 ≤ kind) (h3 : kind ≤ 3) (hn : n ≤ 300) :
    Calls Try.prog 7 #[.int .i64 kind, .int .u64 seed, .int .i64 n] w fun e w' => e = .returned (.bool true) ∧ Below w.heap.size w w' := by
  have hok := stpS_ok kind seed n hn
  have hlen := (stpS_bd kind seed n).2.2
  have hshort := SOk.short hok
  have HS := Aside0.mk (fun W => Steps_ok.calls kind seed n W h0 h3 hn)
  generalize (stpS kind seed n).xs = l at hok hlen hshort HS
  have hl : l.length ≤ 100000 := by omega
  have HOK := Aside0.mk hok
  have HSH := Aside0.mk hshort
  clear hok hshort hlen
  go_enter Try.func7, Try.ntmps7
  go_wp2_with fail
  refine (HS.out w).mono ?_
  rintro e w1 ⟨v1, rfl, hr1, hb1⟩
  have HR1 := Aside0.mk hr1
  have HB1 := Aside0.mk hb1
  clear hr1 hb1
  go_wp2_with fail
  refine (HS.out w1).mono ?_
  rintro e w2 ⟨v2, rfl, hr2, hb2⟩
  have HR2 := Aside0.mk hr2
  replace HR1 := Aside0.mk (Kd.R_below HR1.out hb2)
  have HB2 := Aside0.mk (below_step HB1.out hb2)
  clear hr2 hb2 HB1 HS
  by_cases hz : l.length = 0
  · obtain ⟨A1, c1, rfl⟩ := Kd.R_slice HR1.out
    obtain ⟨A2, c2, rfl⟩ := Kd.R_slice HR2.out
    rw [hz]
    clear HR1 HR2
    go_wp2_with fail
    refine (Same_nil.calls A1 A2 c1 c2 w2).mono ?_
    rintro e w3 ⟨rfl, hb3⟩
    have HB3 := Aside0.mk (below_step HB2.out hb3)
    clear hb3 HB2
    go_wp2_with fail
    go_loopw [11] (fun x11 wr => x11 = .int .i64 0 ∧ wr = w3) (fun _ _ => 0)
    case atStart => exact ⟨rfl, rfl⟩
    case round =>
      obtain ⟨rfl, rfl⟩ := hrel
      go_wp2_with fail
      refine (Dd.alive36.calls _).mono ?_
      rintro e w4 ⟨rfl, hb4⟩
      have HB4 := Aside0.mk (below_step HB3.out hb4)
      clear hb4 HB3
      go_wp2
      go_ret
      exact ⟨rfl, HB4.out⟩
  · obtain ⟨ga, ca, rfl, hga, hra⟩ := R_rowS HR1.out (by omega)
    obtain ⟨gb, cb, rfl, hgb, hrb⟩ := R_rowS HR2.out (by omega)
    have HA := Aside0.mk hra
    have HBr := Aside0.mk hrb
    have HG := Aside0.mk hga
    have HGB := Aside0.mk hgb
    clear HR1 HR2 hra hrb hga hgb
    go_wp2_with fail
    refine (Same.calls ga gb ca cb l w2 HG.out HGB.out HA.out HBr.out hl HSH.out).mono ?_
    rintro e w3 ⟨rfl, hb3⟩
    have HA3 := Aside0.mk (HA.out.below HG.out hb3)
    have HG3 := Aside0.mk (show ga < w3.heap.size from Nat.lt_of_lt_of_le HG.out hb3.size)
    have HB3 := Aside0.mk (below_step HB2.out hb3)
    clear hb3 HB2 HA HBr HG HGB HSH
    go_wp2_with fail
    go_loopw [11] (fun x11 wr => ∃ i : Nat, x11 = .int .i64 i ∧ i ≤ l.length ∧ Aside0 (Below w3.heap.size w3 wr)) (fun x11 _ => l.length - (intOf x11).toNat)
    case atStart => exact ⟨0, rfl, by omega, ⟨Below.refl _ _⟩⟩
    case round =>
      obtain ⟨i, rfl, hi, HR⟩ := hrel
      by_cases d : i < l.length
      · have dl : decide ((i : Int) < (l.length : Int)) = true := decide_eq_true (by omega)
        have b1 : (0 : Int) ≤ (i : Int) := by omega
        have b2 : (i : Int) < (l.length : Int) := by omega
        have hw : wrap64 ((i : Int) + 1) = ((i + 1 : Nat) : Int) := by unfold wrap64; omega
        obtain ⟨Af, cf, Al, cl, hf, hbl, hr⟩ := (HA3.out.below HG3.out HR.out) i d
        have hx := HOK.out l[i] (List.getElem_mem d)
        generalize l[i] = x at hf hbl hr hx
        have HRC := Aside0.mk (Right.calls x hx Af Al cf cl wr hf)
        have l1 := stepC_len x (.slice Af x.fs.length cf) (.slice Al x.fl.length cl)
        generalize stepC x (.slice Af x.fs.length cf) (.slice Al x.fl.length cl) = cs1 at hr HRC l1
        have R1 := Aside0.mk hr
        have L1 := Aside0.mk (show (Try.prog.info? 66).map (·.size) = some cs1.length by rw [info66s, l1])
        clear hf hbl hr hx l1
        go_wp2_with (first | (refine wpList_load_mid rfl 66 (.tmp 43) rfl ga (i * 27) rfl cs1 _ R1.out Try.underlying66 rfl L1.out ?_))
        refine HRC.out.mono ?_
        rintro e w9 ⟨rfl, hb⟩
        have HR9 := Aside0.mk (below_step HR.out hb)
        clear hb HR HRC R1 L1
        go_wp2
        go_roundw
        case rel => exact ⟨i + 1, rfl, by omega, HR9⟩
        case measure => simp only [intOf]; omega
      · have hil : i = l.length := by omega
        have dl : decide ((i : Int) < (l.length : Int)) = false := decide_eq_false (by omega)
        have HB4 := Aside0.mk (below_step HB3.out HR.out)
        clear HR HB3 HA3 HG3 HOK
        go_wp2_with fail
        refine (Dd.alive36.calls _).mono ?_
        rintro e w5 ⟨rfl, hb5⟩
        have HB5 := Aside0.mk (below_step HB4.out hb5)
        clear hb5 HB4
        go_wp2
        go_ret
        exact ⟨rfl, HB5.out⟩
def ossuarylaw36_DrillRight.f (k s n : Int) : Option Bool := some true
theorem ossuarylaw36_DrillRight.calls (k s n : Int) (r : Bool) (w : World) (hr : ossuarylaw36_DrillRight.f k s n = some r) :
    Calls Try.prog 7 #[.int .i64 k, .int .u64 s, .int .i64 n] w fun e w' => e = .returned (.bool r) ∧ Below w.heap.size w w' := by
  obtain rfl := Option.some.inj hr
  by_cases h : k < 0 ∨ 3 < k ∨ n < 0 ∨ 300 < n
  · exact right_bad.walk k s n w h
  · obtain ⟨m, rfl⟩ : ∃ m : Nat, n = m := ⟨n.toNat, by omega⟩
    exact right_ok.walk k s m w (by omega) (by omega) (by omega)
end Go.Proofs.Ytiokjjadpobciaa.P
