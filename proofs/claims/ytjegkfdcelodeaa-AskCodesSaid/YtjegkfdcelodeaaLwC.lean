import Derived.Test.YtjegkfdcelodeaaAs5
import Derived.Test.YtjegkfdcelodeaaAs7
import Derived.Test.YtjegkfdcelodeaaAs8
import Derived.Test.YtjegkfdcelodeaaLwM
import Derived.Test.YtjegkfdcelodeaaPx10
namespace Go.Proofs.Ytjegkfdcelodeaa.P
open Go.RowKit Go.Proofs.YtjegkfdcelodeaaW.PrintWords Go.Proofs.YtjegkfdcelodeaaW.PrintLast Go.Proofs.YtjegkfdcelodeaaW.PrintMore
attribute [local go_sem] max2_int min2_int max_two min_two max_three min_three max_four min_four
set_option linter.unusedVariables false
set_option linter.unusedSimpArgs false
namespace As
open Wr
set_option maxHeartbeats 8000000 in
set_option maxRecDepth 100000 in
theorem eqQ (d : Nat) (W : World) (a : Qy) : (Op.equalIn (d + 3) 58 (.agg #[.int .i64 a.a, .int .i64 a.b, .bool (a.G 0), .bool (a.G 1), .bool (a.G 2), .bool (a.G 3), .bool (a.H 0), .bool (a.H 1), .bool (a.H 2), .bool (a.H 3), .string (a.T 0), .string (a.T 1), .string (a.T 2), .string (a.T 3)]) (.agg #[.int .i64 a.a, .int .i64 a.b, .bool (a.G 0), .bool (a.G 1), .bool (a.G 2), .bool (a.G 3), .bool (a.H 0), .bool (a.H 1), .bool (a.H 2), .bool (a.H 3), .string (a.T 0), .string (a.T 1), .string (a.T 2), .string (a.T 3)])).run Try.prog W = .ok true W := by
  have h := eq56 d W (a.T 0) (a.T 1) (a.T 2) (a.T 3) (a.T 0) (a.T 1) (a.T 2) (a.T 3)
  simp only [eqS_refl, Bool.and_self] at h
  have h4 : ∀ x : Bool, (Op.equalIn (d + 1) 4 (.bool x) (.bool x)).run Try.prog W = .ok true W := fun x => by rw [run_equalIn_bool W d 4 x x Try.underlying4]; simp
  have g1 : (Op.equalIn (d + 2) 55 (.agg #[.bool (a.G 0), .bool (a.G 1), .bool (a.G 2), .bool (a.G 3)]) (.agg #[.bool (a.G 0), .bool (a.G 1), .bool (a.G 2), .bool (a.G 3)])).run Try.prog W = .ok true W :=
    eq_arr4 W (d + 1) Try.underlying55 (by kernel_rfl) (by kernel_rfl) (by kernel_rfl) _ _ _ _ _ _ _ _ _ _ _ _ (h4 _) (h4 _) (h4 _) (h4 _)
  have g2 : (Op.equalIn (d + 2) 55 (.agg #[.bool (a.H 0), .bool (a.H 1), .bool (a.H 2), .bool (a.H 3)]) (.agg #[.bool (a.H 0), .bool (a.H 1), .bool (a.H 2), .bool (a.H 3)])).run Try.prog W = .ok true W :=
    eq_arr4 W (d + 1) Try.underlying55 (by kernel_rfl) (by kernel_rfl) (by kernel_rfl) _ _ _ _ _ _ _ _ _ _ _ _ (h4 _) (h4 _) (h4 _) (h4 _)
  have c56 : Try.prog.cellsOf 56 = 4 := by kernel_rfl
  have c55 : Try.prog.cellsOf 55 = 4 := by kernel_rfl
  clear h4
  go_simp
set_option maxHeartbeats 8000000 in
set_option maxRecDepth 100000 in
theorem EncodeV.calls (q : Qy) (dims c : Int) (L : List Int) (w : World) (hc : chkQ q dims = c) (hL : encV q dims = L) :
    Calls Try.prog 55 #[.agg q.cells, .int .i64 dims] w fun e w' => ∃ v, e = .returned (.tuple #[v, .int .i64 c]) ∧ Kd.R (Kd.int .u8) 5 w' w.heap.size (fun _ => True) v L ∧ Below w.heap.size w w' := by
  subst hc hL
  by_cases h : chkQ q dims = 0
  · have hd := (chk_ok h).d
    obtain ⟨n, rfl⟩ : ∃ n : Nat, dims = n := ⟨dims.toNat, by omega⟩
    unfold encV
    rw [if_pos h, h, Int.toNat_natCast]
    exact Encode_ok.calls q n w h
  · unfold encV
    rw [if_neg h]
    exact (Encode_bad.calls q dims w h).mono fun e w' k => ⟨_, k.1, Kd.R_nil _ _ _ _ _, k.2⟩
set_option maxHeartbeats 8000000 in
set_option maxRecDepth 100000 in
theorem REncodeV.calls (q : Qy) (dims c : Int) (L : List Int) (w : World) (hc : chkQ q dims = c) (hL : encV q dims = L) :
    Calls Try.prog 56 #[.agg q.cells, .int .i64 dims] w fun e w' => ∃ v, e = .returned (.tuple #[v, .int .i64 c]) ∧ Kd.R (Kd.int .u8) 5 w' w.heap.size (fun _ => True) v L ∧ Below w.heap.size w w' := by
  subst hc hL
  by_cases h : chkQ q dims = 0
  · have hd := (chk_ok h).d
    obtain ⟨n, rfl⟩ : ∃ n : Nat, dims = n := ⟨dims.toNat, by omega⟩
    unfold encV
    rw [if_pos h, h, Int.toNat_natCast]
    exact REncode_ok.calls q n w h
  · unfold encV
    rw [if_neg h]
    exact (REncode_bad.calls q dims w h).mono fun e w' k => ⟨_, k.1, Kd.R_nil _ _ _ _ _, k.2⟩
set_option maxHeartbeats 8000000 in
set_option maxRecDepth 100000 in
theorem ReadV.calls (A0 : Option Addr) (c0 : Nat) (l : List Int) (dims : Int) (rq : Qy) (rf : Int) (w : World) (hC : Kd.C (Kd.int .u8) w A0 l.length l) (hc : l.length ≤ c0) (hl : l.length ≤ 1073741824) (hb : bytesP (l, 0)) (hr : readV l dims = (rq, rf)) :
    Calls Try.prog 57 #[.slice A0 l.length c0, .int .i64 dims] w fun e w' => e = .returned (.tuple #[.agg rq.cells, .int .i64 rf]) ∧ Below w.heap.size w w' := by
  by_cases h : dims < 1 ∨ 4 < dims
  · unfold readV at hr
    rw [if_pos h] at hr
    cases hr
    exact Read_dims.calls A0 c0 l dims w h
  · obtain ⟨n, rfl⟩ : ∃ n : Nat, dims = n := ⟨dims.toNat, by omega⟩
    exact Read_in.calls A0 c0 l n rq rf w hC hc hl hb (by omega) (by omega) hr
set_option maxHeartbeats 8000000 in
set_option maxRecDepth 100000 in
theorem RReadV.calls (A0 : Option Addr) (c0 : Nat) (l : List Int) (dims : Int) (rq : Qy) (rf : Int) (w : World) (hC : Kd.C (Kd.int .u8) w A0 l.length l) (hc : l.length ≤ c0) (hb : bytesP (l, 0)) (hr : readV l dims = (rq, rf)) :
    Calls Try.prog 58 #[.slice A0 l.length c0, .int .i64 dims] w fun e w' => e = .returned (.tuple #[.agg rq.cells, .int .i64 rf]) ∧ Below w.heap.size w w' := by
  by_cases h : dims < 1 ∨ 4 < dims
  · unfold readV at hr
    rw [if_pos h] at hr
    cases hr
    exact RRead_dims.calls A0 c0 l dims w h
  · obtain ⟨n, rfl⟩ : ∃ n : Nat, dims = n := ⟨dims.toNat, by omega⟩
    exact RRead_in.calls A0 c0 l n rq rf w hC hc hb (by omega) (by omega) hr
set_option maxHeartbeats 8000000 in
set_option maxRecDepth 100000 in
theorem AskCodes_heavy.calls (q : Qy) (A0 : Option Addr) (c0 : Nat) (l : List Int) (dims : Int) (w : World) (hC : Kd.C (Kd.int .u8) w A0 l.length l) (hc : l.length ≤ c0) (hl : light q = false) :
    Calls Try.prog 13 #[.agg q.cells, .slice A0 l.length c0, .int .i64 dims] w fun e w' => e = .returned (.bool true) ∧ Below w.heap.size w w' := by
  have HQ := Aside0.mk (QB.new q w)
  have HB := Aside0.mk (show Below w.heap.size w (w.alloc (.cells q.cells 58 (0, 0))) from (Below.refl _ w).alloc (Nat.le_refl _) _)
  have HC := Aside0.mk (Kd.C_below hC ((Below.refl _ _).alloc (Nat.le_refl _) (.cells q.cells 58 (0, 0))))
  have hLi := Light.calls q
  unfold Qy.cells at HQ HB HC hLi ⊢
  have HLi := Aside0.mk hLi
  clear hLi hC
  go_enter Try.func13, Try.ntmps13
  go_wp2_with fail
  refine (HLi.out _).mono ?_
  rw [hl]
  rintro e w2 ⟨rfl, hb⟩
  replace HB := Aside0.mk (below_step HB.out hb)
  replace HQ := Aside0.mk (HQ.out.below hb)
  replace HC := Aside0.mk (Kd.C_below HC.out hb)
  clear hb HLi
  go_wp2_with fail
  refine (alive13.calls _).mono ?_
  rintro e wa ⟨rfl, hb⟩
  have HBa := Aside0.mk (below_step HB.out hb)
  clear hb HB
  go_wp2
  go_ret
  exact ⟨rfl, HBa.out⟩
set_option maxHeartbeats 8000000 in
set_option maxRecDepth 100000 in
theorem AskCodes_long.calls (q : Qy) (A0 : Option Addr) (c0 : Nat) (l : List Int) (dims : Int) (w : World) (hC : Kd.C (Kd.int .u8) w A0 l.length l) (hc : l.length ≤ c0) (hl : light q = true) (hn : 200 < l.length) :
    Calls Try.prog 13 #[.agg q.cells, .slice A0 l.length c0, .int .i64 dims] w fun e w' => e = .returned (.bool true) ∧ Below w.heap.size w w' := by
  have d1 : decide (200 < (l.length : Int)) = true := decide_eq_true (by omega)
  have d2 : decide ((l.length : Int) > 200) = true := decide_eq_true (by omega)
  have HQ := Aside0.mk (QB.new q w)
  have HB := Aside0.mk (show Below w.heap.size w (w.alloc (.cells q.cells 58 (0, 0))) from (Below.refl _ w).alloc (Nat.le_refl _) _)
  have HC := Aside0.mk (Kd.C_below hC ((Below.refl _ _).alloc (Nat.le_refl _) (.cells q.cells 58 (0, 0))))
  have hLi := Light.calls q
  unfold Qy.cells at HQ HB HC hLi ⊢
  have HLi := Aside0.mk hLi
  clear hLi hC
  go_enter Try.func13, Try.ntmps13
  go_wp2_with fail
  refine (HLi.out _).mono ?_
  rw [hl]
  rintro e w2 ⟨rfl, hb⟩
  replace HB := Aside0.mk (below_step HB.out hb)
  replace HQ := Aside0.mk (HQ.out.below hb)
  replace HC := Aside0.mk (Kd.C_below HC.out hb)
  clear hb HLi
  go_wp2_with fail
  refine (alive13.calls _).mono ?_
  rintro e wa ⟨rfl, hb⟩
  have HBa := Aside0.mk (below_step HB.out hb)
  clear hb HB
  go_wp2
  go_ret
  exact ⟨rfl, HBa.out⟩
set_option maxHeartbeats 8000000 in
set_option maxRecDepth 100000 in
theorem AskCodes_ok.calls (q : Qy) (A0 : Option Addr) (c0 : Nat) (l : List Int) (dims : Int) (w : World) (hC : Kd.C (Kd.int .u8) w A0 l.length l) (hc : l.length ≤ c0) (hl : light q = true) (hn : l.length ≤ 200) (hb0 : bytesP (l, 0)) :
    Calls Try.prog 13 #[.agg q.cells, .slice A0 l.length c0, .int .i64 dims] w fun e w' => e = .returned (.bool true) ∧ Below w.heap.size w w' := by
  have d1 : decide (200 < (l.length : Int)) = false := decide_eq_false (by omega)
  have d2 : decide ((l.length : Int) > 200) = false := decide_eq_false (by omega)
  obtain ⟨c, h1⟩ : ∃ c, chkQ q dims = c := ⟨_, rfl⟩
  obtain ⟨L, h2⟩ : ∃ L, encV q dims = L := ⟨_, rfl⟩
  obtain ⟨rq, rf, h3⟩ : ∃ rq rf, readV l dims = (rq, rf) := ⟨_, _, rfl⟩
  have HE := Aside0.mk (⟨h1, h2⟩ : chkQ q dims = c ∧ encV q dims = L)
  have HR := Aside0.mk h3
  have HY := Aside0.mk hb0
  clear h1 h2 h3 hb0
  have HQ := Aside0.mk (QB.new q w)
  have HB := Aside0.mk (show Below w.heap.size w (w.alloc (.cells q.cells 58 (0, 0))) from (Below.refl _ w).alloc (Nat.le_refl _) _)
  have HC := Aside0.mk (Kd.C_below hC ((Below.refl _ _).alloc (Nat.le_refl _) (.cells q.cells 58 (0, 0))))
  have hLi := Light.calls q
  unfold Qy.cells at HQ HB HC hLi ⊢
  have HLi := Aside0.mk hLi
  clear hLi hC
  go_enter Try.func13, Try.ntmps13
  go_wp2_with fail
  refine (HLi.out _).mono ?_
  rw [hl]
  rintro e w2 ⟨rfl, hb⟩
  replace HB := Aside0.mk (below_step HB.out hb)
  replace HQ := Aside0.mk (HQ.out.below hb)
  replace HC := Aside0.mk (Kd.C_below HC.out hb)
  clear hb HLi
  obtain ⟨x0, x1, x2, x3, x4, x5, x6, x7, x8, x9, x10, x11, x12, x13⟩ := HQ.out.all
  go_wp2_with fail
  clear x0 x1 x2 x3 x4 x5 x6 x7 x8 x9 x10 x11 x12 x13
  refine (EncodeV.calls q dims c L _ HE.out.1 HE.out.2).mono ?_
  rintro e w3 ⟨v3, rfl, hr, hb⟩
  obtain ⟨A3, c3, rfl, hc3, hC3⟩ := Kd.R_reads hr
  have HC3 := Aside0.mk (⟨hC3, hc3⟩ : _ ∧ _)
  replace HQ := Aside0.mk (HQ.out.below hb)
  replace HC := Aside0.mk (Kd.C_below HC.out hb)
  replace HB := Aside0.mk (below_step HB.out hb)
  clear hr hb hC3 hc3
  obtain ⟨x0, x1, x2, x3, x4, x5, x6, x7, x8, x9, x10, x11, x12, x13⟩ := HQ.out.all
  go_wp2_with fail
  clear x0 x1 x2 x3 x4 x5 x6 x7 x8 x9 x10 x11 x12 x13
  refine (REncodeV.calls q dims c L _ HE.out.1 HE.out.2).mono ?_
  rintro e w4 ⟨v4, rfl, hr, hb⟩
  obtain ⟨A4, c4, rfl, hc4, hC4⟩ := Kd.R_reads hr
  have HC4 := Aside0.mk (⟨hC4, hc4⟩ : _ ∧ _)
  replace HQ := Aside0.mk (HQ.out.below hb)
  replace HC := Aside0.mk (Kd.C_below HC.out hb)
  have HC3b := Aside0.mk (⟨Kd.C_below HC3.out.1 hb, HC3.out.2⟩ : _ ∧ _)
  replace HB := Aside0.mk (below_step HB.out hb)
  clear hr hb hC4 hc4 HC3 HE
  go_wp2_with fail
  refine (ReadV.calls A0 c0 l dims rq rf _ HC.out hc (by omega) HY.out HR.out).mono ?_
  rintro e w5 ⟨rfl, hb⟩
  replace HQ := Aside0.mk (HQ.out.below hb)
  replace HC := Aside0.mk (Kd.C_below HC.out hb)
  have HC3 := Aside0.mk (⟨Kd.C_below HC3b.out.1 hb, HC3b.out.2⟩ : _ ∧ _)
  have HC4b := Aside0.mk (⟨Kd.C_below HC4.out.1 hb, HC4.out.2⟩ : _ ∧ _)
  replace HB := Aside0.mk (below_step HB.out hb)
  clear hb HC3b HC4
  have hset := fun (W : World) => run_storeCells_new (P := Try.prog) W 58 #[.int .i64 0, .int .i64 0, .bool false, .bool false, .bool false, .bool false, .bool false, .bool false, .bool false, .bool false, .string { data := #[] }, .string { data := #[] }, .string { data := #[] }, .string { data := #[] }] rq.cells (by kernel_rfl) rfl (by simp [Qy.cells, Value.oneCell'])
  go_wp2_with fail
  have HP := Aside0.mk (QB.new rq w5)
  have hb := (Below.refl w5.heap.size w5).alloc (Nat.le_refl _) (.cells rq.cells 58 (0, 0))
  replace HQ := Aside0.mk (HQ.out.below hb)
  replace HC := Aside0.mk (Kd.C_below HC.out hb)
  have HC3b := Aside0.mk (⟨Kd.C_below HC3.out.1 hb, HC3.out.2⟩ : _ ∧ _)
  have HC4 := Aside0.mk (⟨Kd.C_below HC4b.out.1 hb, HC4b.out.2⟩ : _ ∧ _)
  replace HB := Aside0.mk (below_step HB.out hb)
  clear hb HC3 HC4b
  refine (RReadV.calls A0 c0 l dims rq rf _ HC.out hc HY.out HR.out).mono ?_
  rintro e w6 ⟨rfl, hb⟩
  have hb2 := (Below.refl w6.heap.size w6).alloc (Nat.le_refl _) (.cells rq.cells 58 (0, 0))
  have HP5 := Aside0.mk ((HP.out.below hb).below hb2)
  have HP6 := Aside0.mk (QB.new rq w6)
  have HC3 := Aside0.mk (⟨Kd.C_below (Kd.C_below HC3b.out.1 hb) hb2, HC3b.out.2⟩ : _ ∧ _)
  have HC4b := Aside0.mk (⟨Kd.C_below (Kd.C_below HC4.out.1 hb) hb2, HC4.out.2⟩ : _ ∧ _)
  replace HB := Aside0.mk (below_step (below_step HB.out hb) hb2)
  clear hb hb2 HC3b HC4 HP HC HQ HR HY
  go_wp2_with fail
  clear hset
  generalize w6.alloc _ = w7 at *
  refine (ossuaryref01_Same.calls A3 c3 L A4 c4 L true w7 HC3.out.1 HC3.out.2 HC4b.out.1 HC4b.out.2 (Pol.ref_Same_refl _)).mono ?_
  rintro e w8 ⟨rfl, hd⟩
  replace HP5 := Aside0.mk (HP5.out.below hd.below)
  replace HP6 := Aside0.mk (HP6.out.below hd.below)
  replace HB := Aside0.mk (below_step HB.out hd.below)
  clear hd HC3 HC4b
  have g1 : (c == c) = true := by simp
  have g2 : (rf == rf) = true := by simp
  have g3 : decide (c = c) = true := by simp
  have hek : ∀ W : World, (Op.equalIn 10000 58 (.agg #[.int .i64 rq.a, .int .i64 rq.b, .bool (rq.G 0), .bool (rq.G 1), .bool (rq.G 2), .bool (rq.G 3), .bool (rq.H 0), .bool (rq.H 1), .bool (rq.H 2), .bool (rq.H 3), .string (rq.T 0), .string (rq.T 1), .string (rq.T 2), .string (rq.T 3)]) (.agg #[.int .i64 rq.a, .int .i64 rq.b, .bool (rq.G 0), .bool (rq.G 1), .bool (rq.G 2), .bool (rq.G 3), .bool (rq.H 0), .bool (rq.H 1), .bool (rq.H 2), .bool (rq.H 3), .string (rq.T 0), .string (rq.T 1), .string (rq.T 2), .string (rq.T 3)])).run Try.prog W = .ok true W := fun W => eqQ 9997 W rq
  obtain ⟨x0, x1, x2, x3, x4, x5, x6, x7, x8, x9, x10, x11, x12, x13⟩ := HP5.out.all
  obtain ⟨y0, y1, y2, y3, y4, y5, y6, y7, y8, y9, y10, y11, y12, y13⟩ := HP6.out.all
  go_wp2_with fail
  refine (alive13.calls _).mono ?_
  rintro e wa ⟨rfl, hb⟩
  have HBa := Aside0.mk (below_step HB.out hb)
  clear hb HB
  go_wp2
  go_ret
  exact ⟨rfl, HBa.out⟩
end As
def ossuarylaw13_AskCodes.f (q : Qy) (l : List Int) (dims : Int) : Option Bool := if ∀ x ∈ l, 0 ≤ x ∧ x < 256 then some true else none
open As in
theorem ossuarylaw13_AskCodes.calls (q : Qy) (A0 : Option Addr) (c0 : Nat) (l : List Int) (dims : Int) (r : Bool) (w : World) (hC : Kd.C (Kd.int .u8) w A0 l.length l) (hc : l.length ≤ c0) (h : ossuarylaw13_AskCodes.f q l dims = some r) :
    Calls Try.prog 13 #[.agg q.cells, .slice A0 l.length c0, .int .i64 dims] w fun e w' => e = .returned (.bool r) ∧ Below w.heap.size w w' := by
  unfold ossuarylaw13_AskCodes.f at h
  split at h
  · rename_i hb
    obtain rfl := Option.some.inj h
    cases hl : light q with
    | false => exact AskCodes_heavy.calls q A0 c0 l dims w hC hc hl
    | true =>
      by_cases hn : 200 < l.length
      · exact AskCodes_long.calls q A0 c0 l dims w hC hc hl hn
      · exact AskCodes_ok.calls q A0 c0 l dims w hC hc hl (by omega) hb
  · cases h
end Go.Proofs.Ytjegkfdcelodeaa.P
