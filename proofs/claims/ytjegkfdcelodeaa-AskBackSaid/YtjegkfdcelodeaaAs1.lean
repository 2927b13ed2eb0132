import Derived.Test.YtjegkfdcelodeaaAs0
namespace Go.Proofs.Ytjegkfdcelodeaa.P
open Go.RowKit Go.Proofs.YtjegkfdcelodeaaW.PrintWords Go.Proofs.YtjegkfdcelodeaaW.PrintLast Go.Proofs.YtjegkfdcelodeaaW.PrintMore
attribute [local go_sem] max2_int min2_int max_two min_two max_three min_three max_four min_four
set_option linter.unusedVariables false
set_option linter.unusedSimpArgs false
namespace As
set_option maxRecDepth 100000 in
theorem idx_s (q : Qy) {i : Nat} (hi : i < 4) (W : World) : (Instr.index 56 (.agg #[.string (q.T 0), .string (q.T 1), .string (q.T 2), .string (q.T 3)]) (.int .i64 i)).run Try.prog W = .ok (.string (q.T i)) W := by
  rcases lt4 hi with rfl | rfl | rfl | rfl <;> rfl
set_option maxRecDepth 100000 in
theorem idx_b (f : Nat → Bool) {i : Nat} (hi : i < 4) (W : World) : (Instr.index 55 (.agg #[.bool (f 0), .bool (f 1), .bool (f 2), .bool (f 3)]) (.int .i64 i)).run Try.prog W = .ok (.bool (f i)) W := by
  rcases lt4 hi with rfl | rfl | rfl | rfl <;> rfl
set_option maxHeartbeats 8000000 in
set_option maxRecDepth 100000 in
theorem many.calls (dims : Int) (b : Bool) (w : World) (h : (decide (1 ≤ dims) && decide (dims ≤ 4)) = b) :
    Calls Try.prog 80 #[.int .i64 dims] w fun e w' => e = .returned (.bool b) ∧ w' = w := by
  subst h
  cases d1 : decide (1 ≤ dims)
  · have d2 : decide (dims ≥ 1) = _ := d1
    go_enter Try.func80, Try.ntmps80
    go_wp2
    go_ret
    exact ⟨rfl, rfl⟩
  · have d2 : decide (dims ≥ 1) = _ := d1
    go_enter Try.func80, Try.ntmps80
    go_wp2
    go_ret
    exact ⟨by simp, rfl⟩
set_option maxHeartbeats 8000000 in
set_option maxRecDepth 100000 in
theorem Check.calls (q : Qy) (dims : Int) (r : Int) (w : World) (hr : chkQ q dims = r) :
    Calls Try.prog 79 #[.agg q.cells, .int .i64 dims] w fun e w' => e = .returned (.int .i64 r) ∧ Below w.heap.size w w' := by
  have HQ := Aside0.mk (QB.new q w)
  have HB := Aside0.mk (show Below w.heap.size w (w.alloc (.cells q.cells 58 (0, 0))) from (Below.refl _ w).alloc (Nat.le_refl _) _)
  by_cases c1 : dims < 1 ∨ 4 < dims
  · have hr1 : r = 1 := by rw [← hr]; unfold chkQ; rw [if_pos c1]
    subst hr1
    clear hr
    unfold Qy.cells at HQ HB ⊢
    by_cases c2 : dims < 1
    · have e1 : decide (dims < 1) = true := decide_eq_true c2
      have e1' : decide (1 ≤ dims) = false := decide_eq_false (by omega)
      go_enter Try.func79, Try.ntmps79
      go_wp2_with fail
      refine (many.calls dims false _ (by simp; omega)).mono ?_
      rintro e w1 ⟨rfl, rfl⟩
      go_wp2
      go_ret
      exact ⟨rfl, HB.out⟩
    · have e1 : decide (dims < 1) = false := decide_eq_false c2
      have e2 : decide (dims > 4) = true := decide_eq_true (by omega)
      have e3 : decide (4 < dims) = true := decide_eq_true (by omega)
      go_enter Try.func79, Try.ntmps79
      go_wp2_with fail
      refine (many.calls dims false _ (by simp; omega)).mono ?_
      rintro e w1 ⟨rfl, rfl⟩
      go_wp2
      go_ret
      exact ⟨rfl, HB.out⟩
  · have e1 : decide (dims < 1) = false := decide_eq_false (by omega)
    have e2 : decide (dims > 4) = false := decide_eq_false (by omega)
    have e3 : decide (4 < dims) = false := decide_eq_false (by omega)
    have fa := HQ.out.ca
    have fb := HQ.out.cb
    by_cases c2 : q.a < 0 ∨ 16777217 < q.b ∨ q.b < q.a
    · have hr1 : r = 2 := by rw [← hr]; unfold chkQ; rw [if_neg c1, if_pos c2]
      subst hr1
      clear hr
      unfold Qy.cells at HQ HB fa fb ⊢
      cases e4 : decide (q.a < 0) <;> cases e5 : decide (16777217 < q.b) <;> cases e7 : decide (q.b < q.a)
      · simp at e4 e5 e7; omega
      all_goals
        go_enter Try.func79, Try.ntmps79
        go_wp2_with fail
        refine (many.calls dims true _ (by simp; omega)).mono ?_
        rintro e w1 ⟨rfl, rfl⟩
        go_wp2
        go_ret
        exact ⟨rfl, HB.out⟩
    · have e4 : decide (q.a < 0) = false := decide_eq_false (by omega)
      have e5 : decide (q.b > 16777217) = false := decide_eq_false (by omega)
      have e6 : decide (16777217 < q.b) = false := decide_eq_false (by omega)
      have e7 : decide (q.a > q.b) = false := decide_eq_false (by omega)
      have e8 : decide (q.b < q.a) = false := decide_eq_false (by omega)
      unfold Qy.cells at HQ HB fa fb ⊢
      go_enter Try.func79, Try.ntmps79
      go_wp2_with fail
      refine (many.calls dims true _ (by simp; omega)).mono ?_
      rintro e w1 ⟨rfl, rfl⟩
      go_wp2
      clear fa fb
      generalize w.alloc _ = W at HQ HB ⊢
      go_loopw [30] (fun x5 wr => ∃ i : Nat, x5 = .int .i64 i ∧ i ≤ 4 ∧ Aside0 (∀ j, j < i → badQ q dims j = false) ∧ wr = W) (fun x5 _ => 4 - (intOf x5).toNat)
      case atStart => exact ⟨0, rfl, by omega, ⟨fun j hj => by omega⟩, rfl⟩
      case round =>
        obtain ⟨i, rfl, hi, HI, rfl⟩ := hrel
        by_cases d : i < 4
        · have dl : decide ((i : Int) < 4) = true := decide_eq_true (by omega)
          have b1 : (0 : Int) ≤ (i : Int) := by omega
          have b2 : (i : Int) < 4 := by omega
          have hw : wrap64 ((i : Int) + 1) = ((i + 1 : Nat) : Int) := by unfold wrap64; omega
          have f1 := HQ.out.cT d
          have f2 := HQ.out.cG d
          have f3 := HQ.out.cH d
          have hix := idx_s q d
          cases hG : q.G i <;> cases hH : q.H i <;> cases he : (q.T i).toList.isEmpty <;> cases m2 : decide (dims ≤ (i : Int)) <;> cases z2 : decide (16 < ((q.T i).size : Int))
          all_goals
            rw [hG] at f2
            rw [hH] at f3
            have m1 : decide ((i : Int) ≥ dims) = _ := m2
            have z1 : decide (((q.T i).size : Int) > 16) = _ := z2
            go_wp2
            first
              | (have hb : badQ q dims i = true := by simp only [badQ, hG, hH, he, m2, z2]; rfl
                 go_ret
                 exact ⟨by rw [← chk4 c1 c2 d hb, hr]; rfl, HB.out⟩)
              | (have hb : badQ q dims i = false := by simp only [badQ, hG, hH, he, m2, z2]; rfl
                 go_roundw
                 case rel =>
                   refine ⟨i + 1, rfl, by omega, ⟨fun j hj => ?_⟩, ?_⟩
                   · rcases Nat.lt_succ_iff_lt_or_eq.1 hj with h | h
                     · exact HI.out j h
                     · subst h; exact hb
                   · trivial
                 case measure => simp only [intOf]; omega)
        · have dl : decide ((i : Int) < 4) = false := decide_eq_false (by omega)
          have h0 := chk0 c1 c2 (fun j hj => HI.out j (by omega))
          go_wp2
          go_ret
          exact ⟨by rw [← h0, hr]; rfl, HB.out⟩
end As
end Go.Proofs.Ytjegkfdcelodeaa.P
