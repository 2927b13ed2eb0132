import Derived.Test.YtiokjjadpobciaaLn7
namespace Go.Proofs.Ytiokjjadpobciaa.P
open Go.RowKit Go.Conc Go.Proofs.YtiokjjadpobciaaW.PrintWords Go.Proofs.YtiokjjadpobciaaW.PrintLast Go.Proofs.YtiokjjadpobciaaW.PrintMore
attribute [local go_sem] max2_int min2_int max_two min_two max_three min_three max_four min_four
set_option linter.unusedVariables false
set_option linter.unusedSimpArgs false
namespace Ln
theorem put1_room (r : Nat) (p q : List Int) (x : Int) (h : q.length < r) : putV r [p, q] 1 x = (0, [p, q ++ [x]]) := by simp [putV, lane, h]
theorem put1_full (r : Nat) (p q : List Int) (x : Int) (h : ¬ q.length < r) : putV r [p, q] 1 x = (7, [p, q]) := by simp [putV, lane, h]
theorem put0_room (r : Nat) (p q : List Int) (x : Int) (h : p.length < r) : putV r [p, q] 0 x = (0, [p ++ [x], q]) := by simp [putV, lane, h]
theorem put0_full (r : Nat) (p q : List Int) (x : Int) (h : ¬ p.length < r) : putV r [p, q] 0 x = (7, [p, q]) := by simp [putV, lane, h]
theorem take0 (x : Int) (p q : List Int) : takeV 2 0 [x :: p, q] = (0, x, true, [p, q]) := by simp [takeV]
theorem take1 (x : Int) (q : List Int) : takeV 2 0 [[], x :: q] = (1, x, true, [[], q]) := by simp [takeV]
theorem take2 : takeV 2 0 [([] : List Int), []] = (0, 0, false, [[], []]) := by simp [takeV]
theorem min_in (l : List Int) (i r : Nat) (h : i < l.length) (hr : i < r) : (l.take (min i r)) ++ [l[i]] = l.take (min (i + 1) r) := by
  rw [Nat.min_eq_left (by omega), Nat.min_eq_left (by omega)]
  simp
theorem min_out (l : List Int) (i r : Nat) (hr : ¬ i < r) : l.take (min i r) = l.take (min (i + 1) r) := by
  rw [Nat.min_eq_right (by omega), Nat.min_eq_right (by omega)]
theorem rd_at (l : List Int) (i : Nat) (h : i < l.length) : rd l (i : Int) = l[i] := by
  simp [rd, List.getD_eq_getElem?_getD, h]
theorem len_min (l : List Int) (i r : Nat) (h : i < l.length) : (l.take (min i r)).length < r ↔ i < r := by
  rw [List.length_take]; omega
theorem min_end (l : List Int) (i r : Nat) (h : l.length ≤ i) : l.take (min i r) = l.take r := by
  by_cases c : i ≤ r
  · rw [Nat.min_eq_left c, List.take_of_length_le h, List.take_of_length_le (by omega)]
  · rw [Nat.min_eq_right (by omega)]
theorem drop_at (l : List Int) (i r : Nat) (h : i < l.length) (hr : i < r) : (l.take r).drop i = l[i] :: (l.take r).drop (i + 1) := by
  rw [List.drop_eq_getElem_cons (by rw [List.length_take]; omega)]
  simp
theorem drop_end (l : List Int) (i r : Nat) (h : l.length ≤ i ∨ r ≤ i) : (l.take r).drop i = [] := by
  apply List.drop_eq_nil_of_le
  rw [List.length_take]; omega
set_option maxHeartbeats 8000000 in
set_option maxRecDepth 100000 in
theorem lo_long (A1 A2 : Option Addr) (c1 c2 : Nat) (low high : List Int) (r : Int) (w : World) (h : ¬ (1 ≤ r ∧ r ≤ 64 ∧ low.length ≤ 100 ∧ high.length ≤ 100)) :
    Calls Try.prog 4 #[.int .i64 r, .slice A1 low.length c1, .slice A2 high.length c2] w fun e w' => e = .returned (.bool true) ∧ Below w.heap.size w w' := by
  have hh : r < 1 ∨ (¬ r < 1 ∧ 64 < r) ∨ (¬ r < 1 ∧ ¬ 64 < r ∧ 100 < low.length) ∨ (¬ r < 1 ∧ ¬ 64 < r ∧ ¬ 100 < low.length ∧ 100 < high.length) := by omega
  rcases hh with hh | hh | hh | hh
  · have e0 : decide (r < 1) = true := decide_eq_true (by omega)
    clear hh h
    go_enter Try.func4, Try.ntmps4
    go_wp2_with fail
    refine (alive.calls _).mono ?_
    rintro e w3 ⟨rfl, hb⟩
    have HB3 := Aside0.mk hb
    clear hb
    go_wp2
    go_ret
    exact ⟨rfl, HB3.out⟩
  · have e0 : decide (r < 1) = false := decide_eq_false (by omega)
    have e1 : decide (64 < r) = true := decide_eq_true (by omega)
    clear hh h
    go_enter Try.func4, Try.ntmps4
    go_wp2_with fail
    refine (alive.calls _).mono ?_
    rintro e w3 ⟨rfl, hb⟩
    have HB3 := Aside0.mk hb
    clear hb
    go_wp2
    go_ret
    exact ⟨rfl, HB3.out⟩
  · have e0 : decide (r < 1) = false := decide_eq_false (by omega)
    have e1 : decide (64 < r) = false := decide_eq_false (by omega)
    have e2 : decide (100 < (low.length : Int)) = true := decide_eq_true (by omega)
    have g2 : 100 < low.length := hh.2.2
    clear hh h
    go_enter Try.func4, Try.ntmps4
    go_wp2_with fail
    refine (alive.calls _).mono ?_
    rintro e w3 ⟨rfl, hb⟩
    have HB3 := Aside0.mk hb
    clear hb
    go_wp2
    go_ret
    exact ⟨rfl, HB3.out⟩
  · have e0 : decide (r < 1) = false := decide_eq_false (by omega)
    have e1 : decide (64 < r) = false := decide_eq_false (by omega)
    have e2 : decide (100 < (low.length : Int)) = false := decide_eq_false (by omega)
    have e3 : decide (100 < (high.length : Int)) = true := decide_eq_true (by omega)
    have g2 : ¬ 100 < low.length := hh.2.2.1
    have g3 : 100 < high.length := hh.2.2.2
    clear hh h
    go_enter Try.func4, Try.ntmps4
    go_wp2_with fail
    refine (alive.calls _).mono ?_
    rintro e w3 ⟨rfl, hb⟩
    have HB3 := Aside0.mk hb
    clear hb
    go_wp2
    go_ret
    exact ⟨rfl, HB3.out⟩
set_option maxHeartbeats 8000000 in
set_option maxRecDepth 100000 in
theorem lo_main (A1 A2 : Option Addr) (c1 c2 : Nat) (low high : List Int) (r : Nat) (w : World) (hr1 : 1 ≤ r) (hr2 : r ≤ 64) (hl : low.length ≤ 100) (hh : high.length ≤ 100) (hC1 : Kd.C (Kd.int .i64) w A1 low.length low) (hC2 : Kd.C (Kd.int .i64) w A2 high.length high) :
    Calls Try.prog 4 #[.int .i64 r, .slice A1 low.length c1, .slice A2 high.length c2] w fun e w' => e = .returned (.bool true) ∧ Below w.heap.size w w' := by
  have HC1 := Aside0.mk hC1
  have HC2 := Aside0.mk hC2
  clear hC1 hC2
  have d1 : decide ((r : Int) < 1) = false := decide_eq_false (by omega)
  have d2 : decide (64 < (r : Int)) = false := decide_eq_false (by omega)
  have d3 : decide (100 < (low.length : Int)) = false := decide_eq_false (by omega)
  have d4 : decide (100 < (high.length : Int)) = false := decide_eq_false (by omega)
  go_enter Try.func4, Try.ntmps4
  go_wp2_with fail
  refine (New_ok.calls 2 r w ⟨by omega, by omega, hr1, hr2⟩).mono ?_
  rintro e w1 ⟨g, rfl, hg, hl1, hb1⟩
  have HL := Aside0.mk (show LnP w.heap.size g r [[], []] w1 from hl1)
  have HB := Aside0.mk hb1
  clear hl1 hb1
  go_wp2
  go_loopw [9] (fun x wr => ∃ i : Nat, x = .int .i64 i ∧ i ≤ high.length ∧ Aside0 (LnP w.heap.size g r [[], high.take (min i r)] wr) ∧ Aside0 (Below w.heap.size w wr)) (fun x _ => high.length - (intOf x).toNat)
  case atStart => exact ⟨0, rfl, by omega, by simpa using HL, HB⟩
  case round =>
    clear HL HB
    obtain ⟨i, rfl, hi, HL, HB⟩ := hrel
    by_cases d : i < high.length
    · have dl : decide ((i : Int) < (high.length : Int)) = true := decide_eq_true (by omega)
      obtain ⟨ad, rfl, hcell⟩ := Kd.at_int (Kd.C_below HC2.out HB.out) (i : Int) (by omega) (by omega)
      rw [rd_at high i d, Int.toNat_natCast] at hcell
      have b1 : (0 : Int) ≤ (i : Int) := by omega
      have b2 : (i : Int) < (high.length : Int) := by omega
      have hw : wrap64 ((i : Int) + 1) = ((i + 1 : Nat) : Int) := by unfold wrap64; omega
      go_wp2_with fail
      refine (Put.calls _ g r _ 1 high[i] w _ HB.out HL.out).mono ?_
      by_cases dr : i < r
      · rw [put1_room _ _ _ _ ((len_min high i r d).2 dr), min_in high i r d dr]
        have dr1 : decide ((i : Int) < (r : Int)) = true := decide_eq_true (by omega)
        rintro e w2 ⟨rfl, h2⟩
        have HL2 := Aside0.mk h2.1
        have HB2 := Aside0.mk h2.2.1
        clear h2 HL HB hcell
        go_wp2
        go_roundw
        case rel => exact ⟨i + 1, rfl, by omega, HL2, HB2⟩
        case measure => simp only [intOf]; omega
      · rw [put1_full _ _ _ _ (fun h => dr ((len_min high i r d).1 h)), min_out high i r dr]
        have dr1 : decide ((i : Int) < (r : Int)) = false := decide_eq_false (by omega)
        rintro e w2 ⟨rfl, h2⟩
        have HL2 := Aside0.mk h2.1
        have HB2 := Aside0.mk h2.2.1
        clear h2 HL HB hcell
        go_wp2
        go_roundw
        case rel => exact ⟨i + 1, rfl, by omega, HL2, HB2⟩
        case measure => simp only [intOf]; omega
    · have dl : decide ((i : Int) < (high.length : Int)) = false := decide_eq_false (by omega)
      have HLn := Aside0.mk (show LnP w.heap.size g r [[], high.take r] wr by have := HL.out; rwa [min_end high i r (by omega)] at this)
      have HBn := HB
      clear HL HB
      have HL := HLn
      have HB := HBn
      clear HLn HBn
      go_wp2
      clear dl d hi
      go_loopw [10] (fun x wr => ∃ i : Nat, x = .int .i64 i ∧ i ≤ low.length ∧ Aside0 (LnP w.heap.size g r [low.take (min i r), high.take r] wr) ∧ Aside0 (Below w.heap.size w wr)) (fun x _ => low.length - (intOf x).toNat)
      case atStart => exact ⟨0, rfl, by omega, by simpa using HL, HB⟩
      case round =>
        clear HL HB
        obtain ⟨i, rfl, hi, HL, HB⟩ := hrel
        by_cases d : i < low.length
        · have dl : decide ((i : Int) < (low.length : Int)) = true := decide_eq_true (by omega)
          obtain ⟨ad, rfl, hcell⟩ := Kd.at_int (Kd.C_below HC1.out HB.out) (i : Int) (by omega) (by omega)
          rw [rd_at low i d, Int.toNat_natCast] at hcell
          have b1 : (0 : Int) ≤ (i : Int) := by omega
          have b2 : (i : Int) < (low.length : Int) := by omega
          have hw : wrap64 ((i : Int) + 1) = ((i + 1 : Nat) : Int) := by unfold wrap64; omega
          go_wp2_with fail
          refine (Put.calls _ g r _ 0 low[i] w _ HB.out HL.out).mono ?_
          by_cases dr : i < r
          · rw [put0_room _ _ _ _ ((len_min low i r d).2 dr), min_in low i r d dr]
            have dr1 : decide ((i : Int) < (r : Int)) = true := decide_eq_true (by omega)
            rintro e w2 ⟨rfl, h2⟩
            have HL2 := Aside0.mk h2.1
            have HB2 := Aside0.mk h2.2.1
            clear h2 HL HB hcell
            go_wp2
            go_roundw
            case rel => exact ⟨i + 1, rfl, by omega, HL2, HB2⟩
            case measure => simp only [intOf]; omega
          · rw [put0_full _ _ _ _ (fun h => dr ((len_min low i r d).1 h)), min_out low i r dr]
            have dr1 : decide ((i : Int) < (r : Int)) = false := decide_eq_false (by omega)
            rintro e w2 ⟨rfl, h2⟩
            have HL2 := Aside0.mk h2.1
            have HB2 := Aside0.mk h2.2.1
            clear h2 HL HB hcell
            go_wp2
            go_roundw
            case rel => exact ⟨i + 1, rfl, by omega, HL2, HB2⟩
            case measure => simp only [intOf]; omega
        · have dl : decide ((i : Int) < (low.length : Int)) = false := decide_eq_false (by omega)
          have HLn := Aside0.mk (show LnP w.heap.size g r [low.take r, high.take r] wr by have := HL.out; rwa [min_end low i r (by omega)] at this)
          have HBn := HB
          clear HL HB
          have HL := HLn
          have HB := HBn
          clear HLn HBn
          go_wp2
          clear dl d hi
          go_loopw [11] (fun x wr => ∃ i : Nat, x = .int .i64 i ∧ i ≤ low.length ∧ i ≤ r ∧ Aside0 (LnP w.heap.size g r [(low.take r).drop i, high.take r] wr) ∧ Aside0 (Below w.heap.size w wr)) (fun x _ => low.length - (intOf x).toNat)
          case atStart => exact ⟨0, rfl, by omega, by omega, by simpa using HL, HB⟩
          case round =>
            clear HL HB
            obtain ⟨i, rfl, hi, hir, HL, HB⟩ := hrel
            by_cases d : i < low.length ∧ i < r
            · have dl : decide ((i : Int) < (low.length : Int)) = true := decide_eq_true (by omega)
              have dr1 : decide ((i : Int) < (r : Int)) = true := decide_eq_true (by omega)
              have b1 : (0 : Int) ≤ (i : Int) := by omega
              have b2 : (i : Int) < (low.length : Int) := by omega
              have hw : wrap64 ((i : Int) + 1) = ((i + 1 : Nat) : Int) := by unfold wrap64; omega
              obtain ⟨ad, rfl, -⟩ := Kd.at_int HC1.out (i : Int) (by omega) (by omega)
              go_wp2_with fail
              refine (Take.calls _ g r _ w _ HB.out HL.out).mono ?_
              rw [drop_at low i r d.1 d.2]
              rintro e w2 ⟨rfl, h2⟩
              have HL2 := Aside0.mk (show LnP w.heap.size g r [(low.take r).drop (i + 1), high.take r] w2 by have := h2.1; simpa only [List.length_cons, List.length_nil, Nat.zero_add, Nat.reduceAdd, take0] using this)
              have HB2 := Aside0.mk h2.2.1
              simp only [List.length_cons, List.length_nil, Nat.zero_add, Nat.reduceAdd, take0]
              clear h2 HL HB
              obtain ⟨ad', he, hcell⟩ := Kd.at_int (Kd.C_below HC1.out HB2.out) (i : Int) (by omega) (by omega)
              obtain rfl := Option.some.inj he
              rw [rd_at low i d.1, Int.toNat_natCast] at hcell
              go_wp2
              go_roundw
              case rel => exact ⟨i + 1, rfl, by omega, by omega, HL2, HB2⟩
              case measure => simp only [intOf]; omega
            · have HLn := Aside0.mk (show LnP w.heap.size g r [[], high.take r] wr by have := HL.out; rwa [drop_end low i r (by omega)] at this)
              have HBn := HB
              clear HL HB
              have HL := HLn
              have HB := HBn
              clear HLn HBn
              have dd : (¬ i < low.length) ∨ (i < low.length ∧ ¬ i < r) := by omega
              clear d hi hir
              rcases dd with dd | ⟨dd, de⟩
              · go_wp2
                go_loopw [15] (fun x wr => ∃ i : Nat, x = .int .i64 i ∧ i ≤ high.length ∧ i ≤ r ∧ Aside0 (LnP w.heap.size g r [[], (high.take r).drop i] wr) ∧ Aside0 (Below w.heap.size w wr)) (fun x _ => high.length - (intOf x).toNat)
                case atStart => exact ⟨0, rfl, by omega, by omega, by simpa using HL, HB⟩
                case round =>
                  clear HL HB
                  obtain ⟨i, rfl, hi, hir, HL, HB⟩ := hrel
                  by_cases d : i < high.length ∧ i < r
                  · have dl : decide ((i : Int) < (high.length : Int)) = true := decide_eq_true (by omega)
                    have dr1 : decide ((i : Int) < (r : Int)) = true := decide_eq_true (by omega)
                    have b1 : (0 : Int) ≤ (i : Int) := by omega
                    have b2 : (i : Int) < (high.length : Int) := by omega
                    have hw : wrap64 ((i : Int) + 1) = ((i + 1 : Nat) : Int) := by unfold wrap64; omega
                    obtain ⟨ad, rfl, -⟩ := Kd.at_int HC2.out (i : Int) (by omega) (by omega)
                    go_wp2_with fail
                    refine (Take.calls _ g r _ w _ HB.out HL.out).mono ?_
                    rw [drop_at high i r d.1 d.2]
                    rintro e w2 ⟨rfl, h2⟩
                    have HL2 := Aside0.mk (show LnP w.heap.size g r [[], (high.take r).drop (i + 1)] w2 by have := h2.1; simpa only [List.length_cons, List.length_nil, Nat.zero_add, Nat.reduceAdd, take1] using this)
                    have HB2 := Aside0.mk h2.2.1
                    simp only [List.length_cons, List.length_nil, Nat.zero_add, Nat.reduceAdd, take1]
                    clear h2 HL HB
                    obtain ⟨ad', he, hcell⟩ := Kd.at_int (Kd.C_below HC2.out HB2.out) (i : Int) (by omega) (by omega)
                    obtain rfl := Option.some.inj he
                    rw [rd_at high i d.1, Int.toNat_natCast] at hcell
                    go_wp2
                    go_roundw
                    case rel => exact ⟨i + 1, rfl, by omega, by omega, HL2, HB2⟩
                    case measure => simp only [intOf]; omega
                  · have HLn := Aside0.mk (show LnP w.heap.size g r [[], []] wr by have := HL.out; rwa [drop_end high i r (by omega)] at this)
                    have HBn := HB
                    clear HL HB
                    have HL := HLn
                    have HB := HBn
                    clear HLn HBn
                    have dd : (¬ i < high.length) ∨ (i < high.length ∧ ¬ i < r) := by omega
                    clear d hi hir
                    rcases dd with dd | ⟨dd, de⟩
                    · go_wp2_with fail
                      refine (Take.calls _ g r _ w _ HB.out HL.out).mono ?_
                      simp only [List.length_cons, List.length_nil, Nat.zero_add, Nat.reduceAdd, take2]
                      rintro e w2 ⟨rfl, h2⟩
                      have HB2 := Aside0.mk h2.2.1
                      clear h2 HL HB
                      go_wp2_with fail
                      refine (alive.calls _).mono ?_
                      rintro e w3 ⟨rfl, hb⟩
                      have HB3 := Aside0.mk (below_step HB2.out hb)
                      clear hb
                      go_wp2
                      go_ret
                      exact ⟨rfl, HB3.out⟩
                    · go_wp2_with fail
                      refine (Take.calls _ g r _ w _ HB.out HL.out).mono ?_
                      simp only [List.length_cons, List.length_nil, Nat.zero_add, Nat.reduceAdd, take2]
                      rintro e w2 ⟨rfl, h2⟩
                      have HB2 := Aside0.mk h2.2.1
                      clear h2 HL HB
                      go_wp2_with fail
                      refine (alive.calls _).mono ?_
                      rintro e w3 ⟨rfl, hb⟩
                      have HB3 := Aside0.mk (below_step HB2.out hb)
                      clear hb
                      go_wp2
                      go_ret
                      exact ⟨rfl, HB3.out⟩
              · go_wp2
                go_loopw [15] (fun x wr => ∃ i : Nat, x = .int .i64 i ∧ i ≤ high.length ∧ i ≤ r ∧ Aside0 (LnP w.heap.size g r [[], (high.take r).drop i] wr) ∧ Aside0 (Below w.heap.size w wr)) (fun x _ => high.length - (intOf x).toNat)
                case atStart => exact ⟨0, rfl, by omega, by omega, by simpa using HL, HB⟩
                case round =>
                  clear HL HB
                  obtain ⟨i, rfl, hi, hir, HL, HB⟩ := hrel
                  by_cases d : i < high.length ∧ i < r
                  · have dl : decide ((i : Int) < (high.length : Int)) = true := decide_eq_true (by omega)
                    have dr1 : decide ((i : Int) < (r : Int)) = true := decide_eq_true (by omega)
                    have b1 : (0 : Int) ≤ (i : Int) := by omega
                    have b2 : (i : Int) < (high.length : Int) := by omega
                    have hw : wrap64 ((i : Int) + 1) = ((i + 1 : Nat) : Int) := by unfold wrap64; omega
                    obtain ⟨ad, rfl, -⟩ := Kd.at_int HC2.out (i : Int) (by omega) (by omega)
                    go_wp2_with fail
                    refine (Take.calls _ g r _ w _ HB.out HL.out).mono ?_
                    rw [drop_at high i r d.1 d.2]
                    rintro e w2 ⟨rfl, h2⟩
                    have HL2 := Aside0.mk (show LnP w.heap.size g r [[], (high.take r).drop (i + 1)] w2 by have := h2.1; simpa only [List.length_cons, List.length_nil, Nat.zero_add, Nat.reduceAdd, take1] using this)
                    have HB2 := Aside0.mk h2.2.1
                    simp only [List.length_cons, List.length_nil, Nat.zero_add, Nat.reduceAdd, take1]
                    clear h2 HL HB
                    obtain ⟨ad', he, hcell⟩ := Kd.at_int (Kd.C_below HC2.out HB2.out) (i : Int) (by omega) (by omega)
                    obtain rfl := Option.some.inj he
                    rw [rd_at high i d.1, Int.toNat_natCast] at hcell
                    go_wp2
                    go_roundw
                    case rel => exact ⟨i + 1, rfl, by omega, by omega, HL2, HB2⟩
                    case measure => simp only [intOf]; omega
                  · have HLn := Aside0.mk (show LnP w.heap.size g r [[], []] wr by have := HL.out; rwa [drop_end high i r (by omega)] at this)
                    have HBn := HB
                    clear HL HB
                    have HL := HLn
                    have HB := HBn
                    clear HLn HBn
                    have dd : (¬ i < high.length) ∨ (i < high.length ∧ ¬ i < r) := by omega
                    clear d hi hir
                    rcases dd with dd | ⟨dd, de⟩
                    · go_wp2_with fail
                      refine (Take.calls _ g r _ w _ HB.out HL.out).mono ?_
                      simp only [List.length_cons, List.length_nil, Nat.zero_add, Nat.reduceAdd, take2]
                      rintro e w2 ⟨rfl, h2⟩
                      have HB2 := Aside0.mk h2.2.1
                      clear h2 HL HB
                      go_wp2_with fail
                      refine (alive.calls _).mono ?_
                      rintro e w3 ⟨rfl, hb⟩
                      have HB3 := Aside0.mk (below_step HB2.out hb)
                      clear hb
                      go_wp2
                      go_ret
                      exact ⟨rfl, HB3.out⟩
                    · go_wp2_with fail
                      refine (Take.calls _ g r _ w _ HB.out HL.out).mono ?_
                      simp only [List.length_cons, List.length_nil, Nat.zero_add, Nat.reduceAdd, take2]
                      rintro e w2 ⟨rfl, h2⟩
                      have HB2 := Aside0.mk h2.2.1
                      clear h2 HL HB
                      go_wp2_with fail
                      refine (alive.calls _).mono ?_
                      rintro e w3 ⟨rfl, hb⟩
                      have HB3 := Aside0.mk (below_step HB2.out hb)
                      clear hb
                      go_wp2
                      go_ret
                      exact ⟨rfl, HB3.out⟩
end Ln
end Go.Proofs.Ytiokjjadpobciaa.P
