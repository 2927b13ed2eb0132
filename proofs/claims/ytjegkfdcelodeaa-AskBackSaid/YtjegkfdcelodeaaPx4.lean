-- laid by wip/tools/xprint.py of this claim's session (the kit's print.py, and texts of our own); Lean checks it
import Derived.Test.YtjegkfdcelodeaaPx0
namespace Go.Proofs.Ytjegkfdcelodeaa.P
open Go.RowKit Go.Proofs.YtjegkfdcelodeaaW.PrintWords Go.Proofs.YtjegkfdcelodeaaW.PrintLast Go.Proofs.YtjegkfdcelodeaaW.PrintMore
attribute [local go_sem] max2_int min2_int max_two min_two max_three min_three max_four min_four   -- for this text's walks alone
set_option linter.unusedVariables false
set_option linter.unusedSimpArgs false

/-! ### policy_Delay: function 21 -/
-- HAND rounds=0 making=1
/-- A delay doubled with each try, up to cap. -/
def dlv (cap n t : Int) : Int := if t ≤ 0 then n else if cap ≤ n then n else if n < 1 then n else dlv cap (2 * n) (t - 1)
termination_by (cap - n).toNat
decreasing_by omega
def policy_Delay.f (a0 a1 a2 a3 a4 a5 a6 a7 a8 t : Int) : Option Int := if 1 ≤ a5 ∧ a5 ≤ 1048576 ∧ 1 ≤ a6 ∧ a6 ≤ 1048576 ∧ t ≤ 9223372036854775807 then some (mn (dlv a6 a5 t) a6) else none
theorem ret_i {k : IntKind} {a b : Int} (h : a = b) : Ending.returned (.int k a) = .returned (.int k b) := by rw [h]
set_option maxHeartbeats 8000000 in
set_option maxRecDepth 100000 in
theorem policy_Delay.calls (a0 a1 a2 a3 a4 a5 a6 a7 a8 t r : Int) (w : World) (h : policy_Delay.f a0 a1 a2 a3 a4 a5 a6 a7 a8 t = some r) :
    Calls Try.prog 21 #[.agg #[.int .i64 a0, .int .i64 a1, .int .i64 a2, .int .i64 a3, .int .i64 a4, .int .i64 a5, .int .i64 a6, .int .i64 a7, .int .i64 a8], .int .i64 t] w fun e w' => e = .returned (.int .i64 r) ∧ Below w.heap.size w w' := by
  unfold policy_Delay.f at h
  split at h
  case isFalse => exact absurd h (by simp)
  rename_i hc
  obtain ⟨b0, b1, c0, c1, t1⟩ := hc
  have H := Aside0.mk (Option.some.inj h)
  clear h
  have HB := Aside0.mk ((Below.refl w.heap.size w).alloc (Nat.le_refl _) (.cells #[.int .i64 a0, .int .i64 a1, .int .i64 a2, .int .i64 a3, .int .i64 a4, .int .i64 a5, .int .i64 a6, .int .i64 a7, .int .i64 a8] 23 (0, 0)))
  go_enter Try.func21, Try.ntmps21
  go_wp2
  go_step3
  go_wp2
  go_step3
  go_wp2
  go_loop [5, 1] (fun x5 x1 => ∃ (n q : Int), x5 = .int .i64 n ∧ x1 = .int .i64 q ∧ 1 ≤ n ∧ n ≤ 4194304 ∧ q ≤ 9223372036854775807 ∧ Aside0 (mn (dlv a6 n q) a6 = r)) (fun x5 _ => (a6 - intOf x5).toNat)
  case atStart => exact ⟨a5, t, rfl, rfl, b0, by omega, t1, H⟩
  case round =>
    clear H
    obtain ⟨n, q, rfl, rfl, n0, n1, q1, H⟩ := hrel
    by_cases d : 0 < q
    · by_cases e : n ≥ a6
      · have e1 : decide (a6 ≤ n) = true := decide_eq_true e
        have H1 := H.out
        rw [dlv, if_neg (by omega), if_pos e] at H1
        have H2 := Aside0.mk H1
        clear H H1
        go_wp2
        all_goals
          try rw [Exit.noGoto_ret]
          go_ret
          exact ⟨ret_i (by have e := H2.out; unfold mn at e; split at e <;> omega), HB.out⟩
      · have e1 : decide (a6 ≤ n) = false := decide_eq_false e
        have H1 := H.out
        rw [dlv, if_neg (by omega), if_neg (by omega), if_neg (by omega)] at H1
        have H2 := Aside0.mk H1
        clear H H1
        go_wp2
        go_round
        case rel => exact ⟨2 * n, q - 1, by first | rfl | (congr 1; omega), rfl, by omega, by omega, by omega, H2⟩
        case measure => simp [intOf]; omega
    · have H1 := H.out
      rw [dlv, if_pos (by omega)] at H1
      have H2 := Aside0.mk H1
      clear H H1
      go_wp2
      all_goals
        try rw [Exit.noGoto_ret]
        go_ret
        exact ⟨ret_i (by have e := H2.out; unfold mn at e; split at e <;> omega), HB.out⟩

-- NOT PRINTED: function 63 (policy_numbers)

-- NOT PRINTED: function 65 (policy_bounds)

/-! ### policy_Check: function 25 -/
-- HAND rounds=0 making=1
theorem blk_at (w : World) (o : Obj) (n : Nat) (h : n = w.heap.size) : (w.alloc o).heap[n]? = some o := by
  subst h
  exact heap_alloc_new w o
def bndsA : Array Value := #[.int .i64 1, .int .i64 1048576, .int .i64 0, .int .i64 1048576, .int .i64 0, .int .i64 1048576, .int .i64 0, .int .i64 1048576, .int .i64 0, .int .i64 1048576, .int .i64 1, .int .i64 1048576, .int .i64 1, .int .i64 1048576, .int .i64 1, .int .i64 64, .int .i64 100, .int .i64 1048576]
set_option maxHeartbeats 8000000 in
set_option maxRecDepth 100000 in
theorem policy_bounds.calls (w : World) :
    Calls Try.prog 65 #[] w fun e w' => e = .returned (.agg bndsA) ∧ Below w.heap.size w w' := by
  go_enter Try.func65, Try.ntmps65
  go_wp2
  exact bodyPost_ret (results_cell_row rfl _ _ w.heap.size 98 _ (0, 0) _ rfl (heap_alloc_new w _) Try.underlying98 rfl (by kernel_rfl)) rfl ⟨rfl, (Below.refl _ _).alloc (Nat.le_refl _) _⟩

def polA (a0 a1 a2 a3 a4 a5 a6 a7 a8 : Int) : Array Value := #[.int .i64 a0, .int .i64 a1, .int .i64 a2, .int .i64 a3, .int .i64 a4, .int .i64 a5, .int .i64 a6, .int .i64 a7, .int .i64 a8]
set_option maxHeartbeats 8000000 in
set_option maxRecDepth 100000 in
theorem policy_numbers.calls (a0 a1 a2 a3 a4 a5 a6 a7 a8 : Int) (w : World) :
    Calls Try.prog 63 #[.agg #[.int .i64 a0, .int .i64 a1, .int .i64 a2, .int .i64 a3, .int .i64 a4, .int .i64 a5, .int .i64 a6, .int .i64 a7, .int .i64 a8]] w fun e w' => e = .returned (.agg (polA a0 a1 a2 a3 a4 a5 a6 a7 a8)) ∧ Below w.heap.size w w' := by
  go_enter Try.func63, Try.ntmps63
  go_wp2
  exact bodyPost_ret (results_cell_row rfl _ _ (w.heap.size + 1) 93 _ (0, 0) _ rfl (blk_at _ _ _ (by simp)) Try.underlying93 rfl (by kernel_rfl)) rfl ⟨rfl, ((Below.refl _ _).alloc (Nat.le_refl _) _).alloc (by simp) _⟩

theorem cells9 {w : World} {g : Nat} {t : TypeId} {c0 c1 c2 c3 c4 c5 c6 c7 c8 : Value} (h : w.heap[g]? = some (.cells #[c0, c1, c2, c3, c4, c5, c6, c7, c8] t (0, 0))) :
    w.cell? ⟨g, 0, none⟩ = some c0 ∧ w.cell? ⟨g, 1, none⟩ = some c1 ∧ w.cell? ⟨g, 2, none⟩ = some c2 ∧ w.cell? ⟨g, 3, none⟩ = some c3 ∧ w.cell? ⟨g, 4, none⟩ = some c4 ∧ w.cell? ⟨g, 5, none⟩ = some c5 ∧ w.cell? ⟨g, 6, none⟩ = some c6 ∧ w.cell? ⟨g, 7, none⟩ = some c7 ∧ w.cell? ⟨g, 8, none⟩ = some c8 :=
  ⟨blk_cell h 0, blk_cell h 1, blk_cell h 2, blk_cell h 3, blk_cell h 4, blk_cell h 5, blk_cell h 6, blk_cell h 7, blk_cell h 8⟩
def polL (a0 a1 a2 a3 a4 a5 a6 a7 a8 : Int) : List Int := [a0, a1, a2, a3, a4, a5, a6, a7, a8]
def loL (i : Nat) : Int := [1, 0, 0, 0, 0, 1, 1, 1, 100].getD i 0
def hiL (i : Nat) : Int := [1048576, 1048576, 1048576, 1048576, 1048576, 1048576, 1048576, 64, 1048576].getD i 0
def chkL (l : List Int) : Nat → Nat → Int
  | 0, _ => 0
  | d + 1, i => if l.getD i 0 < loL i then 2 else if hiL i < l.getD i 0 then 2 else chkL l d (i + 1)
theorem bnd_lo {w : World} {g : Nat} (h : w.heap[g]? = some (.cells bndsA 98 (0, 0))) (i : Nat) (hi : i < 9) : w.cell? ⟨g, i * 2, none⟩ = some (.int .i64 (loL i)) := by
  rw [blk_cell h]
  match i, hi with
  | 0, _ => rfl
  | 1, _ => rfl
  | 2, _ => rfl
  | 3, _ => rfl
  | 4, _ => rfl
  | 5, _ => rfl
  | 6, _ => rfl
  | 7, _ => rfl
  | 8, _ => rfl
theorem bnd_hi {w : World} {g : Nat} (h : w.heap[g]? = some (.cells bndsA 98 (0, 0))) (i : Nat) (hi : i < 9) : w.cell? ⟨g, i * 2 + 1, none⟩ = some (.int .i64 (hiL i)) := by
  rw [blk_cell h]
  match i, hi with
  | 0, _ => rfl
  | 1, _ => rfl
  | 2, _ => rfl
  | 3, _ => rfl
  | 4, _ => rfl
  | 5, _ => rfl
  | 6, _ => rfl
  | 7, _ => rfl
  | 8, _ => rfl
def policy_Check.f (a0 a1 a2 a3 a4 a5 a6 a7 a8 : Int) : Option Int := some (chkL (polL a0 a1 a2 a3 a4 a5 a6 a7 a8) 9 0)

set_option maxHeartbeats 8000000 in
set_option maxRecDepth 100000 in
theorem policy_Check.calls (a0 a1 a2 a3 a4 a5 a6 a7 a8 r : Int) (w : World) (h : policy_Check.f a0 a1 a2 a3 a4 a5 a6 a7 a8 = some r) :
    Calls Try.prog 25 #[.agg #[.int .i64 a0, .int .i64 a1, .int .i64 a2, .int .i64 a3, .int .i64 a4, .int .i64 a5, .int .i64 a6, .int .i64 a7, .int .i64 a8]] w fun e w' => e = .returned (.int .i64 r) ∧ Below w.heap.size w w' := by
  have H := Aside0.mk (Option.some.inj h)
  clear h
  have hst := fun (W : World) => run_storeCells_new (P := Try.prog) W 98 #[.int .i64 0, .int .i64 0, .int .i64 0, .int .i64 0, .int .i64 0, .int .i64 0, .int .i64 0, .int .i64 0, .int .i64 0, .int .i64 0, .int .i64 0, .int .i64 0, .int .i64 0, .int .i64 0, .int .i64 0, .int .i64 0, .int .i64 0, .int .i64 0] bndsA (by kernel_rfl) rfl (by simp [bndsA, Value.oneCell'])
  have hm : ∀ (i : Nat), i < 9 → ∀ W : World, (Instr.index 93 (.agg (polA a0 a1 a2 a3 a4 a5 a6 a7 a8)) (.int .i64 i)).run Try.prog W = .ok (.int .i64 ((polL a0 a1 a2 a3 a4 a5 a6 a7 a8).getD i 0)) W := by
    intro i hi W
    match i, hi with
    | 0, _ => rfl
    | 1, _ => rfl
    | 2, _ => rfl
    | 3, _ => rfl
    | 4, _ => rfl
    | 5, _ => rfl
    | 6, _ => rfl
    | 7, _ => rfl
    | 8, _ => rfl
  have HM := Aside0.mk hm
  clear hm
  go_enter Try.func25, Try.ntmps25
  go_wp2_with (go_at_call 65; (with_reducible refine (policy_bounds.calls _).mono ?_); rintro e w1 ⟨rfl, hb1⟩; have B1 := Aside0.mk hb1; have hk := blk_below (blk_new w (.cells #[.int .i64 a0, .int .i64 a1, .int .i64 a2, .int .i64 a3, .int .i64 a4, .int .i64 a5, .int .i64 a6, .int .i64 a7, .int .i64 a8] 23 (0, 0))) hb1; have HK := Aside0.mk hk; have hk2 := blk_alloc hk (.cells bndsA 98 (0, 0)); clear hb1 hk; obtain ⟨h0, h1, h2, h3, h4, h5, h6, h7, h8⟩ := cells9 hk2; clear hk2)
  have HB1 := Aside0.mk (show Below w.heap.size w (w1.alloc (.cells bndsA 98 (0, 0))) from (((Below.refl _ w).alloc (Nat.le_refl _) _).trans (B1.out.mono (by simp))).alloc (by have := B1.out.size; simp at this; omega) _)
  have HQ := Aside0.mk (blk_new w1 (.cells bndsA 98 (0, 0)))
  clear HK B1
  refine (policy_numbers.calls a0 a1 a2 a3 a4 a5 a6 a7 a8 _).mono ?_
  rintro e w2 ⟨rfl, hb2⟩
  have HB2 := Aside0.mk (HB1.out.trans (hb2.mono HB1.out.size))
  have HQ2 := Aside0.mk (blk_below HQ.out hb2)
  clear h0 h1 h2 h3 h4 h5 h6 h7 h8 hb2 HQ HB1 hst
  go_wp2
  go_loop [9] (fun x9 => ∃ (i : Nat), x9 = .int .i64 i ∧ i ≤ 9 ∧ Aside0 (chkL (polL a0 a1 a2 a3 a4 a5 a6 a7 a8) (9 - i) i = r)) (fun x9 => 9 - (intOf x9).toNat)
  case atStart => exact ⟨0, rfl, by omega, H⟩
  case round =>
    clear H
    obtain ⟨i, rfl, hi, H⟩ := hrel
    by_cases hlt : i < 9
    · have hm := HM.out i hlt
      have hlo := bnd_lo HQ2.out i hlt
      have hhi := bnd_hi HQ2.out i hlt
      have H1 := H.out
      rw [show 9 - i = (9 - (i + 1)) + 1 from by omega, chkL] at H1
      generalize (polL a0 a1 a2 a3 a4 a5 a6 a7 a8).getD i 0 = x at *
      by_cases c1 : x < loL i
      · have c1b : decide (x < loL i) = true := by simpa using c1
        rw [if_pos c1] at H1
        have H2 := Aside0.mk H1
        clear H1 H
        go_wp2
        go_ret
        have e := H2.out
        subst e
        exact ⟨rfl, HB2.out⟩
      · have c1b : decide (x < loL i) = false := by simpa using c1
        by_cases c2 : hiL i < x
        · have c2b : decide (hiL i < x) = true := by simpa using c2
          rw [if_neg c1, if_pos c2] at H1
          have H2 := Aside0.mk H1
          clear H1 H
          go_wp2
          go_ret
          have e := H2.out
          subst e
          exact ⟨rfl, HB2.out⟩
        · have c2b : decide (hiL i < x) = false := by simpa using c2
          rw [if_neg c1, if_neg c2] at H1
          have H2 := Aside0.mk H1
          clear H1 H
          go_wp2
          go_round
          case rel => exact ⟨i + 1, by go_num, by omega, H2⟩
          case measure => simp [intOf]; omega
    · obtain rfl : i = 9 := by omega
      have H1 := H.out
      rw [Nat.sub_self, chkL] at H1
      have H2 := Aside0.mk H1
      clear H1 H
      go_wp2
      go_ret
      have e := H2.out
      subst e
      exact ⟨rfl, HB2.out⟩


/-! ### policy_Plain: function 61 -/
def policy_Plain.f  : Option (Int × Int × Int × Int × Int × Int × Int × Int × Int) := some (2000, 1, 2, 24, 48, 2, 60, 16, 4000)
set_option maxHeartbeats 8000000 in
set_option maxRecDepth 100000 in
theorem policy_Plain.calls  (r1 : Int) (r2 : Int) (r3 : Int) (r4 : Int) (r5 : Int) (r6 : Int) (r7 : Int) (r8 : Int) (r9 : Int) (w : World) (h : policy_Plain.f  = some (r1, r2, r3, r4, r5, r6, r7, r8, r9)) :
    Calls Try.prog 61 #[] w fun e w' => e = .returned (.agg #[.int .i64 r1, .int .i64 r2, .int .i64 r3, .int .i64 r4, .int .i64 r5, .int .i64 r6, .int .i64 r7, .int .i64 r8, .int .i64 r9]) ∧ Below w.heap.size w w' := by
  have hu23 := Try.underlying23
  have HB := Aside0.mk (Below.refl w.heap.size w)
  have H : (some (2000, 1, 2, 24, 48, 2, 60, 16, 4000)) = some (r1, r2, r3, r4, r5, r6, r7, r8, r9) := h
  clear h
  simp only [Option.some.injEq, Prod.mk.injEq] at H
  obtain ⟨rfl, rfl, rfl, rfl, rfl, rfl, rfl, rfl, rfl⟩ := H
  go_enter Try.func61, Try.ntmps61
  go_wp2_with (first | ((with_reducible refine gate_dst (N := 0) rfl ?_); refine box_event ?hg (N := 0) ?hd (cs := #[.int .i64 0, .int .i64 0, .int .i64 0, .int .i64 0, .int .i64 0, .int .i64 0, .int .i64 0, .int .i64 0, .int .i64 0]) (t := 23) ?hr ?_; (case hd => rfl); (case hg => rfl); (case hr => first | (go_simp; done) | (go_simp; rfl)); intro gb111 hg w1 hbox hb; have n0_ := Aside0.mk (below_step (by repeat (first | (with_reducible first | exact HB.out | apply below_alloc | apply pw_below_drewN | apply below_drew1) | exact HB.out)) hb); have n1_ := Aside0.mk (hbox); have n2_ := Aside0.mk ((by rw [hg]; exact (below_size (by repeat (first | (with_reducible first | exact HB.out | apply below_alloc | apply pw_below_drewN | apply below_drew1) | exact HB.out))) : w.heap.size ≤ gb111)); have n3_ := Aside0.mk ((by rw [hg]; exact (below_size (by repeat (first | (with_reducible first | exact HB.out | apply below_alloc | apply pw_below_drewN | apply below_drew1) | exact HB.out))) : w.heap.size ≤ gb111)); clear HB; have HB := n0_; have BK111 := n1_; have GW111 := n2_; have GE111 := n3_; clear n0_ n1_ n2_ n3_; clear hb hbox hg; have hcz2_0 : w1.cell? ⟨gb111, 0, none⟩ = some (.int .i64 0) := (blk_cell BK111.out 0).trans rfl; have hcz2_1 : w1.cell? ⟨gb111, 1, none⟩ = some (.int .i64 0) := (blk_cell BK111.out 1).trans rfl; have hcz2_2 : w1.cell? ⟨gb111, 2, none⟩ = some (.int .i64 0) := (blk_cell BK111.out 2).trans rfl; have hcz2_3 : w1.cell? ⟨gb111, 3, none⟩ = some (.int .i64 0) := (blk_cell BK111.out 3).trans rfl; have hcz2_4 : w1.cell? ⟨gb111, 4, none⟩ = some (.int .i64 0) := (blk_cell BK111.out 4).trans rfl; have hcz2_5 : w1.cell? ⟨gb111, 5, none⟩ = some (.int .i64 0) := (blk_cell BK111.out 5).trans rfl; have hcz2_6 : w1.cell? ⟨gb111, 6, none⟩ = some (.int .i64 0) := (blk_cell BK111.out 6).trans rfl; have hcz2_7 : w1.cell? ⟨gb111, 7, none⟩ = some (.int .i64 0) := (blk_cell BK111.out 7).trans rfl; have hcz2_8 : w1.cell? ⟨gb111, 8, none⟩ = some (.int .i64 0) := (blk_cell BK111.out 8).trans rfl; have hfz2_0 := blk_frozen BK111.out 0; have hfz2_1 := blk_frozen BK111.out 1; have hfz2_2 := blk_frozen BK111.out 2; have hfz2_3 := blk_frozen BK111.out 3; have hfz2_4 := blk_frozen BK111.out 4; have hfz2_5 := blk_frozen BK111.out 5; have hfz2_6 := blk_frozen BK111.out 6; have hfz2_7 := blk_frozen BK111.out 7; have hfz2_8 := blk_frozen BK111.out 8))
  refine bodyPost_ret (results_cell_row rfl _ _ gb111 23 #[.int .i64 2000, .int .i64 1, .int .i64 2, .int .i64 24, .int .i64 48, .int .i64 2, .int .i64 60, .int .i64 16, .int .i64 4000] (0, 0) _ rfl (by (with_reducible repeat (first | refine blk_drewN ?_ _ | refine blk_drew ?_ | refine blk_alloc ?_ _)); refine blk_put (cs := #[.int .i64 2000, .int .i64 1, .int .i64 2, .int .i64 24, .int .i64 48, .int .i64 2, .int .i64 60, .int .i64 16, .int .i64 0]) ?_ 8 _ rfl; (with_reducible repeat (first | refine blk_drewN ?_ _ | refine blk_drew ?_ | refine blk_alloc ?_ _)); refine blk_put (cs := #[.int .i64 2000, .int .i64 1, .int .i64 2, .int .i64 24, .int .i64 48, .int .i64 2, .int .i64 60, .int .i64 0, .int .i64 0]) ?_ 7 _ rfl; (with_reducible repeat (first | refine blk_drewN ?_ _ | refine blk_drew ?_ | refine blk_alloc ?_ _)); refine blk_put (cs := #[.int .i64 2000, .int .i64 1, .int .i64 2, .int .i64 24, .int .i64 48, .int .i64 2, .int .i64 0, .int .i64 0, .int .i64 0]) ?_ 6 _ rfl; (with_reducible repeat (first | refine blk_drewN ?_ _ | refine blk_drew ?_ | refine blk_alloc ?_ _)); refine blk_put (cs := #[.int .i64 2000, .int .i64 1, .int .i64 2, .int .i64 24, .int .i64 48, .int .i64 0, .int .i64 0, .int .i64 0, .int .i64 0]) ?_ 5 _ rfl; (with_reducible repeat (first | refine blk_drewN ?_ _ | refine blk_drew ?_ | refine blk_alloc ?_ _)); refine blk_put (cs := #[.int .i64 2000, .int .i64 1, .int .i64 2, .int .i64 24, .int .i64 0, .int .i64 0, .int .i64 0, .int .i64 0, .int .i64 0]) ?_ 4 _ rfl; (with_reducible repeat (first | refine blk_drewN ?_ _ | refine blk_drew ?_ | refine blk_alloc ?_ _)); refine blk_put (cs := #[.int .i64 2000, .int .i64 1, .int .i64 2, .int .i64 0, .int .i64 0, .int .i64 0, .int .i64 0, .int .i64 0, .int .i64 0]) ?_ 3 _ rfl; (with_reducible repeat (first | refine blk_drewN ?_ _ | refine blk_drew ?_ | refine blk_alloc ?_ _)); refine blk_put (cs := #[.int .i64 2000, .int .i64 1, .int .i64 0, .int .i64 0, .int .i64 0, .int .i64 0, .int .i64 0, .int .i64 0, .int .i64 0]) ?_ 2 _ rfl; (with_reducible repeat (first | refine blk_drewN ?_ _ | refine blk_drew ?_ | refine blk_alloc ?_ _)); refine blk_put (cs := #[.int .i64 2000, .int .i64 0, .int .i64 0, .int .i64 0, .int .i64 0, .int .i64 0, .int .i64 0, .int .i64 0, .int .i64 0]) ?_ 1 _ rfl; (with_reducible repeat (first | refine blk_drewN ?_ _ | refine blk_drew ?_ | refine blk_alloc ?_ _)); refine blk_put (cs := #[.int .i64 0, .int .i64 0, .int .i64 0, .int .i64 0, .int .i64 0, .int .i64 0, .int .i64 0, .int .i64 0, .int .i64 0]) ?_ 0 _ rfl; (with_reducible repeat (first | refine blk_drewN ?_ _ | refine blk_drew ?_ | refine blk_alloc ?_ _)); exact BK111.out) Try.underlying23 rfl (by kernel_rfl)) rfl ?_
  exact ⟨by first | rfl | (simp [errW_none, errW_some] <;> rfl) | (simp [*, errW_none, errW_some] <;> rfl), by repeat (first | (with_reducible first | exact HB.out | apply below_alloc | apply pw_below_drewN | apply below_drew1 | refine below_set ?_ GE111.out) | exact HB.out)⟩

/-! ### ossuaryref18_Plain: function 62 -/
def ossuaryref18_Plain.f  : Option (Int × Int × Int × Int × Int × Int × Int × Int × Int) := some (2000, 1, 2, 24, 48, 2, 60, 16, 4000)
set_option maxHeartbeats 8000000 in
set_option maxRecDepth 100000 in
theorem ossuaryref18_Plain.calls  (r1 : Int) (r2 : Int) (r3 : Int) (r4 : Int) (r5 : Int) (r6 : Int) (r7 : Int) (r8 : Int) (r9 : Int) (w : World) (h : ossuaryref18_Plain.f  = some (r1, r2, r3, r4, r5, r6, r7, r8, r9)) :
    Calls Try.prog 62 #[] w fun e w' => e = .returned (.agg #[.int .i64 r1, .int .i64 r2, .int .i64 r3, .int .i64 r4, .int .i64 r5, .int .i64 r6, .int .i64 r7, .int .i64 r8, .int .i64 r9]) ∧ Below w.heap.size w w' := by
  have hu23 := Try.underlying23
  have HB := Aside0.mk (Below.refl w.heap.size w)
  have H : (some (2000, 1, 2, 24, 48, 2, 60, 16, 4000)) = some (r1, r2, r3, r4, r5, r6, r7, r8, r9) := h
  clear h
  simp only [Option.some.injEq, Prod.mk.injEq] at H
  obtain ⟨rfl, rfl, rfl, rfl, rfl, rfl, rfl, rfl, rfl⟩ := H
  go_enter Try.func62, Try.ntmps62
  go_wp2_with (first | ((with_reducible refine gate_dst (N := 0) rfl ?_); refine box_event ?hg (N := 0) ?hd (cs := #[.int .i64 0, .int .i64 0, .int .i64 0, .int .i64 0, .int .i64 0, .int .i64 0, .int .i64 0, .int .i64 0, .int .i64 0]) (t := 23) ?hr ?_; (case hd => rfl); (case hg => rfl); (case hr => first | (go_simp; done) | (go_simp; rfl)); intro gb112 hg w1 hbox hb; have n0_ := Aside0.mk (below_step (by repeat (first | (with_reducible first | exact HB.out | apply below_alloc | apply pw_below_drewN | apply below_drew1) | exact HB.out)) hb); have n1_ := Aside0.mk (hbox); have n2_ := Aside0.mk ((by rw [hg]; exact (below_size (by repeat (first | (with_reducible first | exact HB.out | apply below_alloc | apply pw_below_drewN | apply below_drew1) | exact HB.out))) : w.heap.size ≤ gb112)); have n3_ := Aside0.mk ((by rw [hg]; exact (below_size (by repeat (first | (with_reducible first | exact HB.out | apply below_alloc | apply pw_below_drewN | apply below_drew1) | exact HB.out))) : w.heap.size ≤ gb112)); clear HB; have HB := n0_; have BK112 := n1_; have GW112 := n2_; have GE112 := n3_; clear n0_ n1_ n2_ n3_; clear hb hbox hg; have hcz2_0 : w1.cell? ⟨gb112, 0, none⟩ = some (.int .i64 0) := (blk_cell BK112.out 0).trans rfl; have hcz2_1 : w1.cell? ⟨gb112, 1, none⟩ = some (.int .i64 0) := (blk_cell BK112.out 1).trans rfl; have hcz2_2 : w1.cell? ⟨gb112, 2, none⟩ = some (.int .i64 0) := (blk_cell BK112.out 2).trans rfl; have hcz2_3 : w1.cell? ⟨gb112, 3, none⟩ = some (.int .i64 0) := (blk_cell BK112.out 3).trans rfl; have hcz2_4 : w1.cell? ⟨gb112, 4, none⟩ = some (.int .i64 0) := (blk_cell BK112.out 4).trans rfl; have hcz2_5 : w1.cell? ⟨gb112, 5, none⟩ = some (.int .i64 0) := (blk_cell BK112.out 5).trans rfl; have hcz2_6 : w1.cell? ⟨gb112, 6, none⟩ = some (.int .i64 0) := (blk_cell BK112.out 6).trans rfl; have hcz2_7 : w1.cell? ⟨gb112, 7, none⟩ = some (.int .i64 0) := (blk_cell BK112.out 7).trans rfl; have hcz2_8 : w1.cell? ⟨gb112, 8, none⟩ = some (.int .i64 0) := (blk_cell BK112.out 8).trans rfl; have hfz2_0 := blk_frozen BK112.out 0; have hfz2_1 := blk_frozen BK112.out 1; have hfz2_2 := blk_frozen BK112.out 2; have hfz2_3 := blk_frozen BK112.out 3; have hfz2_4 := blk_frozen BK112.out 4; have hfz2_5 := blk_frozen BK112.out 5; have hfz2_6 := blk_frozen BK112.out 6; have hfz2_7 := blk_frozen BK112.out 7; have hfz2_8 := blk_frozen BK112.out 8))
  refine bodyPost_ret (results_cell_row rfl _ _ gb112 23 #[.int .i64 2000, .int .i64 1, .int .i64 2, .int .i64 24, .int .i64 48, .int .i64 2, .int .i64 60, .int .i64 16, .int .i64 4000] (0, 0) _ rfl (by (with_reducible repeat (first | refine blk_drewN ?_ _ | refine blk_drew ?_ | refine blk_alloc ?_ _)); refine blk_put (cs := #[.int .i64 2000, .int .i64 1, .int .i64 2, .int .i64 24, .int .i64 48, .int .i64 2, .int .i64 60, .int .i64 16, .int .i64 0]) ?_ 8 _ rfl; (with_reducible repeat (first | refine blk_drewN ?_ _ | refine blk_drew ?_ | refine blk_alloc ?_ _)); refine blk_put (cs := #[.int .i64 2000, .int .i64 1, .int .i64 2, .int .i64 24, .int .i64 48, .int .i64 2, .int .i64 60, .int .i64 0, .int .i64 0]) ?_ 7 _ rfl; (with_reducible repeat (first | refine blk_drewN ?_ _ | refine blk_drew ?_ | refine blk_alloc ?_ _)); refine blk_put (cs := #[.int .i64 2000, .int .i64 1, .int .i64 2, .int .i64 24, .int .i64 48, .int .i64 2, .int .i64 0, .int .i64 0, .int .i64 0]) ?_ 6 _ rfl; (with_reducible repeat (first | refine blk_drewN ?_ _ | refine blk_drew ?_ | refine blk_alloc ?_ _)); refine blk_put (cs := #[.int .i64 2000, .int .i64 1, .int .i64 2, .int .i64 24, .int .i64 48, .int .i64 0, .int .i64 0, .int .i64 0, .int .i64 0]) ?_ 5 _ rfl; (with_reducible repeat (first | refine blk_drewN ?_ _ | refine blk_drew ?_ | refine blk_alloc ?_ _)); refine blk_put (cs := #[.int .i64 2000, .int .i64 1, .int .i64 2, .int .i64 24, .int .i64 0, .int .i64 0, .int .i64 0, .int .i64 0, .int .i64 0]) ?_ 4 _ rfl; (with_reducible repeat (first | refine blk_drewN ?_ _ | refine blk_drew ?_ | refine blk_alloc ?_ _)); refine blk_put (cs := #[.int .i64 2000, .int .i64 1, .int .i64 2, .int .i64 0, .int .i64 0, .int .i64 0, .int .i64 0, .int .i64 0, .int .i64 0]) ?_ 3 _ rfl; (with_reducible repeat (first | refine blk_drewN ?_ _ | refine blk_drew ?_ | refine blk_alloc ?_ _)); refine blk_put (cs := #[.int .i64 2000, .int .i64 1, .int .i64 0, .int .i64 0, .int .i64 0, .int .i64 0, .int .i64 0, .int .i64 0, .int .i64 0]) ?_ 2 _ rfl; (with_reducible repeat (first | refine blk_drewN ?_ _ | refine blk_drew ?_ | refine blk_alloc ?_ _)); refine blk_put (cs := #[.int .i64 2000, .int .i64 0, .int .i64 0, .int .i64 0, .int .i64 0, .int .i64 0, .int .i64 0, .int .i64 0, .int .i64 0]) ?_ 1 _ rfl; (with_reducible repeat (first | refine blk_drewN ?_ _ | refine blk_drew ?_ | refine blk_alloc ?_ _)); refine blk_put (cs := #[.int .i64 0, .int .i64 0, .int .i64 0, .int .i64 0, .int .i64 0, .int .i64 0, .int .i64 0, .int .i64 0, .int .i64 0]) ?_ 0 _ rfl; (with_reducible repeat (first | refine blk_drewN ?_ _ | refine blk_drew ?_ | refine blk_alloc ?_ _)); exact BK112.out) Try.underlying23 rfl (by kernel_rfl)) rfl ?_
  exact ⟨by first | rfl | (simp [errW_none, errW_some] <;> rfl) | (simp [*, errW_none, errW_some] <;> rfl), by repeat (first | (with_reducible first | exact HB.out | apply below_alloc | apply pw_below_drewN | apply below_drew1 | refine below_set ?_ GE112.out) | exact HB.out)⟩

end Go.Proofs.Ytjegkfdcelodeaa.P
