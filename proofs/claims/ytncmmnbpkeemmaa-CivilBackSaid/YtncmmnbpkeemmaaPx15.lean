-- laid by wip/tools/xprint.py of this claim's session (the kit's print.py, and texts of our own); Lean checks it
import Derived.Test.YtncmmnbpkeemmaaPx0
import Derived.Test.YtncmmnbpkeemmaaPx2
import Derived.Test.YtncmmnbpkeemmaaPx13
namespace Go.Proofs.Ytncmmnbpkeemmaa.P
open Go.RowKit Go.Proofs.YtncmmnbpkeemmaaW.PrintWords Go.Proofs.YtncmmnbpkeemmaaW.PrintLast Go.Proofs.YtncmmnbpkeemmaaW.PrintMore
attribute [local go_sem] max2_int min2_int max_two min_two max_three min_three max_four min_four   -- for this text's walks alone
set_option linter.unusedVariables false
set_option linter.unusedSimpArgs false

/-! ### ossuarylaw04_CivilBack: function 11 -/
mutual
def ossuarylaw04_CivilBack.j0 : Nat → Int → ByteArray → Bool → Option (Bool)
  | 0, _, _, _ => none
  | k + 1, x0, x1, x19 => if x19 = true then ((ossuarylaw04_alive.f).bind fun t332 => (some t332)) else ((civil_Text.f x0).bind fun t333 => ((civil_Parse.f k t333).bind fun bt334 => (if bt334.2 = true then (if bt334.1 = x0 then ((civil_Text.f x0).bind fun t336 => (ossuarylaw04_CivilBack.j1 k x1 ((t336.size : Int) != 13))) else (ossuarylaw04_CivilBack.j1 k x1 true)) else (ossuarylaw04_CivilBack.j1 k x1 true))))
def ossuarylaw04_CivilBack.j1 : Nat → ByteArray → Bool → Option (Bool)
  | 0, _, _ => none
  | k + 1, x1, x39 => if x39 = true then (some false) else ((civil_Parse.f k x1).bind fun bt337 => (if bt337.2 = true then (if bt337.1 ≥ 0 then (if bt337.1 ≤ 16777216 then ((civil_Text.f bt337.1).bind fun t339 => (if t339.toList = x1.toList then ((ossuarylaw04_alive.f).bind fun t340 => (some t340)) else (some false))) else (some false)) else (some false)) else (if bt337.1 = 0 then ((ossuarylaw04_alive.f).bind fun t341 => (some t341)) else (some false))))
end
def ossuarylaw04_CivilBack.f (k : Nat) (a0 : Int) (a1 : ByteArray) : Option (Bool) := if a0 < 0 then (ossuarylaw04_CivilBack.j0 k a0 a1 true) else (if a0 > 16777216 then (ossuarylaw04_CivilBack.j0 k a0 a1 true) else (ossuarylaw04_CivilBack.j0 k a0 a1 (decide ((a1.size : Int) > 100))))
theorem ossuarylaw04_CivilBack.mono_l : ∀ k, (∀ y0 y1 y2, LeO (ossuarylaw04_CivilBack.j0 k y0 y1 y2) (ossuarylaw04_CivilBack.j0 (k + 1) y0 y1 y2)) ∧ (∀ y0 y1, LeO (ossuarylaw04_CivilBack.j1 k y0 y1) (ossuarylaw04_CivilBack.j1 (k + 1) y0 y1))
  | 0 => ⟨fun _ _ _ r h => by simp [ossuarylaw04_CivilBack.j0] at h, fun _ _ r h => by simp [ossuarylaw04_CivilBack.j1] at h⟩
  | k + 1 => by
    obtain ⟨ih0, ih1⟩ := ossuarylaw04_CivilBack.mono_l k
    refine ⟨?_, ?_⟩
    · intro y0 y1 y2
      unfold ossuarylaw04_CivilBack.j0
      repeat' first
      | (with_reducible exact ih0 _ _ _)
      | (with_reducible exact ih1 _ _)
      | (with_reducible exact civil_Parse.mono _ _)
      | (with_reducible exact LeO.refl _)
      | (with_reducible exact LeO.none _)
      | (with_reducible refine LeO.ite ?_ ?_)
      | (with_reducible refine LeO.bind ?_ (fun _ => ?_))
      | exact ih0 _ _ _
      | exact ih1 _ _
      | exact civil_Parse.mono _ _
      | exact LeO.none _
      | refine LeO.ite ?_ ?_
      | refine LeO.bind ?_ (fun _ => ?_)
    · intro y0 y1
      unfold ossuarylaw04_CivilBack.j1
      repeat' first
      | (with_reducible exact ih0 _ _ _)
      | (with_reducible exact ih1 _ _)
      | (with_reducible exact civil_Parse.mono _ _)
      | (with_reducible exact LeO.refl _)
      | (with_reducible exact LeO.none _)
      | (with_reducible refine LeO.ite ?_ ?_)
      | (with_reducible refine LeO.bind ?_ (fun _ => ?_))
      | exact ih0 _ _ _
      | exact ih1 _ _
      | exact civil_Parse.mono _ _
      | exact LeO.none _
      | refine LeO.ite ?_ ?_
      | refine LeO.bind ?_ (fun _ => ?_)
theorem ossuarylaw04_CivilBack.mono : ∀ a0 a1 k, LeO (ossuarylaw04_CivilBack.f k a0 a1) (ossuarylaw04_CivilBack.f (k + 1) a0 a1) := by
  intro a0 a1 k
  obtain ⟨ih0, ih1⟩ := ossuarylaw04_CivilBack.mono_l k
  unfold ossuarylaw04_CivilBack.f
  repeat' first
      | (with_reducible exact ih0 _ _ _)
      | (with_reducible exact ih1 _ _)
      | (with_reducible exact civil_Parse.mono _ _)
      | (with_reducible exact LeO.refl _)
      | (with_reducible exact LeO.none _)
      | (with_reducible refine LeO.ite ?_ ?_)
      | (with_reducible refine LeO.bind ?_ (fun _ => ?_))
      | exact ih0 _ _ _
      | exact ih1 _ _
      | exact civil_Parse.mono _ _
      | exact LeO.none _
      | refine LeO.ite ?_ ?_
      | refine LeO.bind ?_ (fun _ => ?_)
set_option maxHeartbeats 8000000 in
set_option maxRecDepth 100000 in
theorem ossuarylaw04_CivilBack.calls (k : Nat) (a0 : Int) (a1 : ByteArray) (r : Bool) (w : World) (h : ossuarylaw04_CivilBack.f k a0 a1 = some r) :
    Calls Try.prog 11 #[.int .i64 a0, .string a1] w fun e w' => e = .returned (.bool r) ∧ Below w.heap.size w w' := by
  have HB := Aside0.mk (Below.refl w.heap.size w)
  have H : (if a0 < 0 then (ossuarylaw04_CivilBack.j0 k a0 a1 true) else (if a0 > 16777216 then (ossuarylaw04_CivilBack.j0 k a0 a1 true) else (ossuarylaw04_CivilBack.j0 k a0 a1 (decide ((a1.size : Int) > 100))))) = some r := h
  clear h
  have HC3 := Aside0.mk H
  clear H
  go_enter Try.func11, Try.ntmps11
  go_upto_region 1 with (fail)
  go_cut [19] (fun v19 wc => ∃ (kq : Nat) (x19_2 : Bool), v19 = .bool x19_2 ∧ Aside0 (ossuarylaw04_CivilBack.j0 kq a0 a1 x19_2 = some r) ∧ Aside0 (kq ≤ k) ∧ Aside0 (Below w.heap.size w wc))
  case first =>
    have H := HC3.out
    clear HC3
    by_cases c4 : a0 < 0
    · rw [if_pos c4] at H
      have c4b0 : decide (a0 < 0) = true := decide_eq_true c4
      clear c4
      (first | rw [c4b0] | (simp only [i64_w, i32_w]; rw [c4b0]) | skip)
      have H' := Aside0.mk H
      clear H
      go_wp2
      go_meet
      case rel => exact ⟨_, (true), (by first | rfl | (simp; done) | (simp [*]; done)), H', ⟨by first | omega | exact Nat.le_refl _⟩, ⟨by repeat (first | (with_reducible first | exact HB.out | apply below_alloc | apply pw_below_drewN | apply below_drew1) | exact HB.out)⟩⟩
    · rw [if_neg c4] at H
      have c4b0 : decide (a0 < 0) = false := decide_eq_false c4
      clear c4
      (first | rw [c4b0] | (simp only [i64_w, i32_w]; rw [c4b0]) | skip)
      by_cases c5 : a0 > 16777216
      · rw [if_pos c5] at H
        have c5b0 : decide (16777216 < a0) = true := decide_eq_true c5
        clear c5
        have H' := Aside0.mk H
        clear H
        go_wp2
        go_meet
        case rel => exact ⟨_, (true), (by first | rfl | (simp; done) | (simp [*]; done)), H', ⟨by first | omega | exact Nat.le_refl _⟩, ⟨by repeat (first | (with_reducible first | exact HB.out | apply below_alloc | apply pw_below_drewN | apply below_drew1) | exact HB.out)⟩⟩
      · rw [if_neg c5] at H
        have c5b0 : decide (16777216 < a0) = false := decide_eq_false c5
        clear c5
        have H' := Aside0.mk H
        clear H
        go_wp2
        go_meet
        case rel => exact ⟨_, (decide ((a1.size : Int) > 100)), (by first | rfl | (simp; done) | (simp [*]; done)), H', ⟨by first | omega | exact Nat.le_refl _⟩, ⟨by repeat (first | (with_reducible first | exact HB.out | apply below_alloc | apply pw_below_drewN | apply below_drew1) | exact HB.out)⟩⟩
  case rest =>
    clear HC3
    try clear c1
    try clear p2
    try clear c4
    try clear c4b0
    try clear c5
    try clear c5b0
    obtain ⟨kq, x19_2, rfl, HA, HJ2, HB⟩ := hcut
    cases kq with
    | zero => exact absurd HA.out (by simp [ossuarylaw04_CivilBack.j0])
    | succ kj2 =>
      have H := HA.out
      clear HA
      simp only [ossuarylaw04_CivilBack.j0] at H
      by_cases c6 : x19_2 = true
      · subst c6
        have H1 : ((ossuarylaw04_alive.f).bind fun t332 => (some t332)) = some r := by rw [if_pos rfl] at H; exact H
        clear H
        have H := H1
        clear H1
        replace H := Option.bind_eq_some_iff.mp H
        obtain ⟨t332, A70, H⟩ := H
        replace H : (some t332) = some r := H
        have A7 := Aside0.mk A70
        clear A70
        obtain rfl := Option.some.inj H
        go_wp2_with (first | ((with_reducible refine gate_callee (f := 13) rfl ?_); refine goesL_ (some 20) rfl rfl Try.func13 (by kernel_rfl) rfl #[] rfl (by (try simp only [List.map_toArray, List.map_cons, List.map_nil]); first | done | rfl | (simp only [List.length_drop, List.length_take]; rfl)) ?_; (with_reducible refine (ossuarylaw04_alive.calls  t332 _ A7.out).mono ?_); rintro e w8 ⟨rfl, hb⟩; refine ⟨_, rfl, ?_⟩; have n0_ := Aside0.mk (below_step (by repeat (first | (with_reducible first | exact HB.out | apply below_alloc | apply pw_below_drewN | apply below_drew1) | exact HB.out)) hb); clear HB; have HB := n0_; clear n0_; (try clear hb); (try clear hb2); (try clear hk); (try clear hi)))
        go_ret
        exact ⟨by first | rfl | (simp [errW_none, errW_some] <;> rfl) | (simp [*, errW_none, errW_some] <;> rfl), by repeat (first | (with_reducible first | exact HB.out | apply below_alloc | apply pw_below_drewN | apply below_drew1) | exact HB.out)⟩
      · replace c6 := Bool.eq_false_iff.mpr c6
        subst c6
        have H1 : ((civil_Text.f a0).bind fun t333 => ((civil_Parse.f kj2 t333).bind fun bt334 => (if bt334.2 = true then (if bt334.1 = a0 then ((civil_Text.f a0).bind fun t336 => (ossuarylaw04_CivilBack.j1 kj2 a1 ((t336.size : Int) != 13))) else (ossuarylaw04_CivilBack.j1 kj2 a1 true)) else (ossuarylaw04_CivilBack.j1 kj2 a1 true)))) = some r := by rw [if_neg (show ¬ (false = true) by decide)] at H; exact H
        clear H
        have H := H1
        clear H1
        replace H := Option.bind_eq_some_iff.mp H
        obtain ⟨t333, A90, H⟩ := H
        replace H : ((civil_Parse.f kj2 t333).bind fun bt334 => (if bt334.2 = true then (if bt334.1 = a0 then ((civil_Text.f a0).bind fun t336 => (ossuarylaw04_CivilBack.j1 kj2 a1 ((t336.size : Int) != 13))) else (ossuarylaw04_CivilBack.j1 kj2 a1 true)) else (ossuarylaw04_CivilBack.j1 kj2 a1 true))) = some r := H
        have A9 := Aside0.mk A90
        clear A90
        replace H := Option.bind_eq_some_iff.mp H
        obtain ⟨⟨t334, t335⟩, A100, H⟩ := H
        replace H : (if t335 = true then (if t334 = a0 then ((civil_Text.f a0).bind fun t336 => (ossuarylaw04_CivilBack.j1 kj2 a1 ((t336.size : Int) != 13))) else (ossuarylaw04_CivilBack.j1 kj2 a1 true)) else (ossuarylaw04_CivilBack.j1 kj2 a1 true)) = some r := H
        have A10 := Aside0.mk A100
        clear A100
        have HC11 := Aside0.mk H
        clear H
        go_upto_region 4 with (first | ((with_reducible refine gate_callee (f := 44) rfl ?_); refine goesL_ (some 23) rfl rfl Try.func44 (by kernel_rfl) rfl #[.int .i64 a0] rfl (by (try simp only [List.map_toArray, List.map_cons, List.map_nil]); first | done | rfl | (simp only [List.length_drop, List.length_take]; rfl)) ?_; (with_reducible refine (civil_Text.calls a0 t333 _ A9.out).mono ?_); rintro e w12 ⟨rfl, hb⟩; refine ⟨_, rfl, ?_⟩; have n0_ := Aside0.mk (below_step (by repeat (first | (with_reducible first | exact HB.out | apply below_alloc | apply pw_below_drewN | apply below_drew1) | exact HB.out)) hb); clear HB; have HB := n0_; clear n0_; (try clear hb); (try clear hb2); (try clear hk); (try clear hi)) | ((with_reducible refine gate_callee (f := 42) rfl ?_); refine goesL_ (some 24) rfl rfl Try.func42 (by kernel_rfl) rfl #[.string t333] rfl (by (try simp only [List.map_toArray, List.map_cons, List.map_nil]); first | done | rfl | (simp only [List.length_drop, List.length_take]; rfl)) ?_; (with_reducible refine (civil_Parse.calls kj2 t333 t334 t335 _ A10.out).mono ?_); rintro e w13 ⟨rfl, hb⟩; refine ⟨_, rfl, ?_⟩; have n0_ := Aside0.mk (below_step (by repeat (first | (with_reducible first | exact HB.out | apply below_alloc | apply pw_below_drewN | apply below_drew1) | exact HB.out)) hb); clear HB; have HB := n0_; clear n0_; (try clear hb); (try clear hb2); (try clear hk); (try clear hi)))
        (try simp only [Act.put, List.setIfInBounds_toArray, List.set_cons_zero, List.set_cons_succ])
        go_cut [39] (fun v39 wc => ∃ (kq : Nat) (x39_10 : Bool), v39 = .bool x39_10 ∧ Aside0 (ossuarylaw04_CivilBack.j1 kq a1 x39_10 = some r) ∧ Aside0 (kq ≤ kj2) ∧ Aside0 (Below w.heap.size w wc))
        case first =>
          have H := HC11.out
          clear HC11
          by_cases c14 : t335 = true
          · subst c14
            have H1 : (if t334 = a0 then ((civil_Text.f a0).bind fun t336 => (ossuarylaw04_CivilBack.j1 kj2 a1 ((t336.size : Int) != 13))) else (ossuarylaw04_CivilBack.j1 kj2 a1 true)) = some r := by rw [if_pos rfl] at H; exact H
            clear H
            have H := H1
            clear H1
            by_cases c15 : t334 = a0
            · rw [if_pos c15] at H
              have c15b0 : (t334 == a0) = true := beq_iff_eq.mpr c15
              have c15b1 : (t334 != a0) = false := bne_eq_false_iff_eq.mpr c15
              clear c15
              (first | rw [c15b0] | (simp only [i64_w, i32_w]; rw [c15b0]) | skip)
              replace H := Option.bind_eq_some_iff.mp H
              obtain ⟨t336, A160, H⟩ := H
              replace H : (ossuarylaw04_CivilBack.j1 kj2 a1 ((t336.size : Int) != 13)) = some r := H
              have A16 := Aside0.mk A160
              clear A160
              have H' := Aside0.mk H
              clear H
              go_wp2_with (first | (go_at_call 44; (with_reducible refine (civil_Text.calls a0 t336 _ A16.out).mono ?_); rintro e w17 ⟨rfl, hb⟩; have n0_ := Aside0.mk (below_step (by repeat (first | (with_reducible first | exact HB.out | apply below_alloc | apply pw_below_drewN | apply below_drew1) | exact HB.out)) hb); clear HB; have HB := n0_; clear n0_; (try clear hb); (try clear hb2); (try clear hk); (try clear hi)))
              go_meet
              case rel => exact ⟨_, (((t336.size : Int) != 13)), (by first | rfl | (simp; done) | (simp [*]; done)), H', ⟨by have := HJ2.out; first | omega | exact Nat.le_refl _⟩, ⟨by repeat (first | (with_reducible first | exact HB.out | apply below_alloc | apply pw_below_drewN | apply below_drew1) | exact HB.out)⟩⟩
            · rw [if_neg c15] at H
              have c15b0 : (t334 == a0) = false := beq_eq_false_iff_ne.mpr c15
              have c15b1 : (t334 != a0) = true := bne_iff_ne.mpr c15
              (first | rw [c15b0] | (simp only [i64_w, i32_w]; rw [c15b0]) | skip)
              have H' := Aside0.mk H
              clear H
              go_wp2
              go_meet
              case rel => exact ⟨_, (true), (by first | rfl | (simp; done) | (simp [*]; done)), H', ⟨by have := HJ2.out; first | omega | exact Nat.le_refl _⟩, ⟨by repeat (first | (with_reducible first | exact HB.out | apply below_alloc | apply pw_below_drewN | apply below_drew1) | exact HB.out)⟩⟩
          · replace c14 := Bool.eq_false_iff.mpr c14
            subst c14
            have H1 : (ossuarylaw04_CivilBack.j1 kj2 a1 true) = some r := by rw [if_neg (show ¬ (false = true) by decide)] at H; exact H
            clear H
            have H := H1
            clear H1
            have H' := Aside0.mk H
            clear H
            go_wp2
            go_meet
            case rel => exact ⟨_, (true), (by first | rfl | (simp; done) | (simp [*]; done)), H', ⟨by have := HJ2.out; first | omega | exact Nat.le_refl _⟩, ⟨by repeat (first | (with_reducible first | exact HB.out | apply below_alloc | apply pw_below_drewN | apply below_drew1) | exact HB.out)⟩⟩
        case rest =>
          clear HC11
          try clear c1
          try clear p2
          try clear c4
          try clear c4b0
          try clear c5
          try clear c5b0
          try clear c6
          try clear c11
          try clear c13
          try clear c14
          try clear c15
          try clear c15b0
          try clear c15b1
          try clear p2
          obtain ⟨kq, x39_10, rfl, HA, HJ10, HB⟩ := hcut
          cases kq with
          | zero => exact absurd HA.out (by simp [ossuarylaw04_CivilBack.j1])
          | succ kj10 =>
            have H := HA.out
            clear HA
            simp only [ossuarylaw04_CivilBack.j1] at H
            by_cases c18 : x39_10 = true
            · subst c18
              have H1 : (some false) = some r := by rw [if_pos rfl] at H; exact H
              clear H
              have H := H1
              clear H1
              obtain rfl := Option.some.inj H
              go_wp2
              go_ret
              exact ⟨by first | rfl | (simp [errW_none, errW_some] <;> rfl) | (simp [*, errW_none, errW_some] <;> rfl), by repeat (first | (with_reducible first | exact HB.out | apply below_alloc | apply pw_below_drewN | apply below_drew1) | exact HB.out)⟩
            · replace c18 := Bool.eq_false_iff.mpr c18
              subst c18
              have H1 : ((civil_Parse.f kj10 a1).bind fun bt337 => (if bt337.2 = true then (if bt337.1 ≥ 0 then (if bt337.1 ≤ 16777216 then ((civil_Text.f bt337.1).bind fun t339 => (if t339.toList = a1.toList then ((ossuarylaw04_alive.f).bind fun t340 => (some t340)) else (some false))) else (some false)) else (some false)) else (if bt337.1 = 0 then ((ossuarylaw04_alive.f).bind fun t341 => (some t341)) else (some false)))) = some r := by rw [if_neg (show ¬ (false = true) by decide)] at H; exact H
              clear H
              have H := H1
              clear H1
              replace H := Option.bind_eq_some_iff.mp H
              obtain ⟨⟨t337, t338⟩, A190, H⟩ := H
              replace H : (if t338 = true then (if t337 ≥ 0 then (if t337 ≤ 16777216 then ((civil_Text.f t337).bind fun t339 => (if t339.toList = a1.toList then ((ossuarylaw04_alive.f).bind fun t340 => (some t340)) else (some false))) else (some false)) else (some false)) else (if t337 = 0 then ((ossuarylaw04_alive.f).bind fun t341 => (some t341)) else (some false))) = some r := H
              have A19 := Aside0.mk A190
              clear A190
              by_cases c20 : t338 = true
              · subst c20
                have H1 : (if t337 ≥ 0 then (if t337 ≤ 16777216 then ((civil_Text.f t337).bind fun t339 => (if t339.toList = a1.toList then ((ossuarylaw04_alive.f).bind fun t340 => (some t340)) else (some false))) else (some false)) else (some false)) = some r := by rw [if_pos rfl] at H; exact H
                clear H
                have H := H1
                clear H1
                by_cases c21 : t337 ≥ 0
                · rw [if_pos c21] at H
                  have c21b0 : decide (0 ≤ t337) = true := decide_eq_true c21
                  clear c21
                  by_cases c22 : t337 ≤ 16777216
                  · rw [if_pos c22] at H
                    have c22b0 : decide (t337 ≤ 16777216) = true := decide_eq_true c22
                    clear c22
                    replace H := Option.bind_eq_some_iff.mp H
                    obtain ⟨t339, A230, H⟩ := H
                    replace H : (if t339.toList = a1.toList then ((ossuarylaw04_alive.f).bind fun t340 => (some t340)) else (some false)) = some r := H
                    have A23 := Aside0.mk A230
                    clear A230
                    by_cases c24 : t339.toList = a1.toList
                    · rw [if_pos c24] at H
                      have c24b0 : (t339.toList == a1.toList) = true := beq_iff_eq.mpr c24
                      have c24b1 : (t339.toList != a1.toList) = false := bne_eq_false_iff_eq.mpr c24
                      clear c24
                      replace H := Option.bind_eq_some_iff.mp H
                      obtain ⟨t340, A250, H⟩ := H
                      replace H : (some t340) = some r := H
                      have A25 := Aside0.mk A250
                      clear A250
                      obtain rfl := Option.some.inj H
                      go_wp2_with (first | ((with_reducible refine gate_callee (f := 42) rfl ?_); refine goesL_ (some 42) rfl rfl Try.func42 (by kernel_rfl) rfl #[.string a1] rfl (by (try simp only [List.map_toArray, List.map_cons, List.map_nil]); first | done | rfl | (simp only [List.length_drop, List.length_take]; rfl)) ?_; (with_reducible refine (civil_Parse.calls kj10 a1 t337 true _ A19.out).mono ?_); rintro e w26 ⟨rfl, hb⟩; refine ⟨_, rfl, ?_⟩; have n0_ := Aside0.mk (below_step (by repeat (first | (with_reducible first | exact HB.out | apply below_alloc | apply pw_below_drewN | apply below_drew1) | exact HB.out)) hb); clear HB; have HB := n0_; clear n0_; (try clear hb); (try clear hb2); (try clear hk); (try clear hi)) | (go_at_call 44; (with_reducible refine (civil_Text.calls t337 t339 _ A23.out).mono ?_); rintro e w27 ⟨rfl, hb⟩; have n0_ := Aside0.mk (below_step (by repeat (first | (with_reducible first | exact HB.out | apply below_alloc | apply pw_below_drewN | apply below_drew1) | exact HB.out)) hb); clear HB; have HB := n0_; clear n0_; (try clear hb); (try clear hb2); (try clear hk); (try clear hi)) | (go_at_call 13; (with_reducible refine (ossuarylaw04_alive.calls  t340 _ A25.out).mono ?_); rintro e w28 ⟨rfl, hb⟩; have n0_ := Aside0.mk (below_step (by repeat (first | (with_reducible first | exact HB.out | apply below_alloc | apply pw_below_drewN | apply below_drew1) | exact HB.out)) hb); clear HB; have HB := n0_; clear n0_; (try clear hb); (try clear hb2); (try clear hk); (try clear hi)))
                      go_ret
                      exact ⟨by first | rfl | (simp [errW_none, errW_some] <;> rfl) | (simp [*, errW_none, errW_some] <;> rfl), by repeat (first | (with_reducible first | exact HB.out | apply below_alloc | apply pw_below_drewN | apply below_drew1) | exact HB.out)⟩
                    · rw [if_neg c24] at H
                      have c24b0 : (t339.toList == a1.toList) = false := beq_eq_false_iff_ne.mpr c24
                      have c24b1 : (t339.toList != a1.toList) = true := bne_iff_ne.mpr c24
                      obtain rfl := Option.some.inj H
                      go_wp2_with (first | ((with_reducible refine gate_callee (f := 42) rfl ?_); refine goesL_ (some 42) rfl rfl Try.func42 (by kernel_rfl) rfl #[.string a1] rfl (by (try simp only [List.map_toArray, List.map_cons, List.map_nil]); first | done | rfl | (simp only [List.length_drop, List.length_take]; rfl)) ?_; (with_reducible refine (civil_Parse.calls kj10 a1 t337 true _ A19.out).mono ?_); rintro e w29 ⟨rfl, hb⟩; refine ⟨_, rfl, ?_⟩; have n0_ := Aside0.mk (below_step (by repeat (first | (with_reducible first | exact HB.out | apply below_alloc | apply pw_below_drewN | apply below_drew1) | exact HB.out)) hb); clear HB; have HB := n0_; clear n0_; (try clear hb); (try clear hb2); (try clear hk); (try clear hi)) | (go_at_call 44; (with_reducible refine (civil_Text.calls t337 t339 _ A23.out).mono ?_); rintro e w30 ⟨rfl, hb⟩; have n0_ := Aside0.mk (below_step (by repeat (first | (with_reducible first | exact HB.out | apply below_alloc | apply pw_below_drewN | apply below_drew1) | exact HB.out)) hb); clear HB; have HB := n0_; clear n0_; (try clear hb); (try clear hb2); (try clear hk); (try clear hi)))
                      go_ret
                      exact ⟨by first | rfl | (simp [errW_none, errW_some] <;> rfl) | (simp [*, errW_none, errW_some] <;> rfl), by repeat (first | (with_reducible first | exact HB.out | apply below_alloc | apply pw_below_drewN | apply below_drew1) | exact HB.out)⟩
                  · rw [if_neg c22] at H
                    have c22b0 : decide (t337 ≤ 16777216) = false := decide_eq_false c22
                    clear c22
                    obtain rfl := Option.some.inj H
                    go_wp2_with (first | ((with_reducible refine gate_callee (f := 42) rfl ?_); refine goesL_ (some 42) rfl rfl Try.func42 (by kernel_rfl) rfl #[.string a1] rfl (by (try simp only [List.map_toArray, List.map_cons, List.map_nil]); first | done | rfl | (simp only [List.length_drop, List.length_take]; rfl)) ?_; (with_reducible refine (civil_Parse.calls kj10 a1 t337 true _ A19.out).mono ?_); rintro e w31 ⟨rfl, hb⟩; refine ⟨_, rfl, ?_⟩; have n0_ := Aside0.mk (below_step (by repeat (first | (with_reducible first | exact HB.out | apply below_alloc | apply pw_below_drewN | apply below_drew1) | exact HB.out)) hb); clear HB; have HB := n0_; clear n0_; (try clear hb); (try clear hb2); (try clear hk); (try clear hi)))
                    go_ret
                    exact ⟨by first | rfl | (simp [errW_none, errW_some] <;> rfl) | (simp [*, errW_none, errW_some] <;> rfl), by repeat (first | (with_reducible first | exact HB.out | apply below_alloc | apply pw_below_drewN | apply below_drew1) | exact HB.out)⟩
                · rw [if_neg c21] at H
                  have c21b0 : decide (0 ≤ t337) = false := decide_eq_false c21
                  clear c21
                  obtain rfl := Option.some.inj H
                  go_wp2_with (first | ((with_reducible refine gate_callee (f := 42) rfl ?_); refine goesL_ (some 42) rfl rfl Try.func42 (by kernel_rfl) rfl #[.string a1] rfl (by (try simp only [List.map_toArray, List.map_cons, List.map_nil]); first | done | rfl | (simp only [List.length_drop, List.length_take]; rfl)) ?_; (with_reducible refine (civil_Parse.calls kj10 a1 t337 true _ A19.out).mono ?_); rintro e w32 ⟨rfl, hb⟩; refine ⟨_, rfl, ?_⟩; have n0_ := Aside0.mk (below_step (by repeat (first | (with_reducible first | exact HB.out | apply below_alloc | apply pw_below_drewN | apply below_drew1) | exact HB.out)) hb); clear HB; have HB := n0_; clear n0_; (try clear hb); (try clear hb2); (try clear hk); (try clear hi)))
                  go_ret
                  exact ⟨by first | rfl | (simp [errW_none, errW_some] <;> rfl) | (simp [*, errW_none, errW_some] <;> rfl), by repeat (first | (with_reducible first | exact HB.out | apply below_alloc | apply pw_below_drewN | apply below_drew1) | exact HB.out)⟩
              · replace c20 := Bool.eq_false_iff.mpr c20
                subst c20
                have H1 : (if t337 = 0 then ((ossuarylaw04_alive.f).bind fun t341 => (some t341)) else (some false)) = some r := by rw [if_neg (show ¬ (false = true) by decide)] at H; exact H
                clear H
                have H := H1
                clear H1
                by_cases c33 : t337 = 0
                · rw [if_pos c33] at H
                  have c33b0 : (t337 == 0) = true := beq_iff_eq.mpr c33
                  have c33b1 : (t337 != 0) = false := bne_eq_false_iff_eq.mpr c33
                  clear c33
                  replace H := Option.bind_eq_some_iff.mp H
                  obtain ⟨t341, A340, H⟩ := H
                  replace H : (some t341) = some r := H
                  have A34 := Aside0.mk A340
                  clear A340
                  obtain rfl := Option.some.inj H
                  go_wp2_with (first | ((with_reducible refine gate_callee (f := 42) rfl ?_); refine goesL_ (some 42) rfl rfl Try.func42 (by kernel_rfl) rfl #[.string a1] rfl (by (try simp only [List.map_toArray, List.map_cons, List.map_nil]); first | done | rfl | (simp only [List.length_drop, List.length_take]; rfl)) ?_; (with_reducible refine (civil_Parse.calls kj10 a1 t337 false _ A19.out).mono ?_); rintro e w35 ⟨rfl, hb⟩; refine ⟨_, rfl, ?_⟩; have n0_ := Aside0.mk (below_step (by repeat (first | (with_reducible first | exact HB.out | apply below_alloc | apply pw_below_drewN | apply below_drew1) | exact HB.out)) hb); clear HB; have HB := n0_; clear n0_; (try clear hb); (try clear hb2); (try clear hk); (try clear hi)) | (go_at_call 13; (with_reducible refine (ossuarylaw04_alive.calls  t341 _ A34.out).mono ?_); rintro e w36 ⟨rfl, hb⟩; have n0_ := Aside0.mk (below_step (by repeat (first | (with_reducible first | exact HB.out | apply below_alloc | apply pw_below_drewN | apply below_drew1) | exact HB.out)) hb); clear HB; have HB := n0_; clear n0_; (try clear hb); (try clear hb2); (try clear hk); (try clear hi)))
                  go_ret
                  exact ⟨by first | rfl | (simp [errW_none, errW_some] <;> rfl) | (simp [*, errW_none, errW_some] <;> rfl), by repeat (first | (with_reducible first | exact HB.out | apply below_alloc | apply pw_below_drewN | apply below_drew1) | exact HB.out)⟩
                · rw [if_neg c33] at H
                  have c33b0 : (t337 == 0) = false := beq_eq_false_iff_ne.mpr c33
                  have c33b1 : (t337 != 0) = true := bne_iff_ne.mpr c33
                  obtain rfl := Option.some.inj H
                  go_wp2_with (first | ((with_reducible refine gate_callee (f := 42) rfl ?_); refine goesL_ (some 42) rfl rfl Try.func42 (by kernel_rfl) rfl #[.string a1] rfl (by (try simp only [List.map_toArray, List.map_cons, List.map_nil]); first | done | rfl | (simp only [List.length_drop, List.length_take]; rfl)) ?_; (with_reducible refine (civil_Parse.calls kj10 a1 t337 false _ A19.out).mono ?_); rintro e w37 ⟨rfl, hb⟩; refine ⟨_, rfl, ?_⟩; have n0_ := Aside0.mk (below_step (by repeat (first | (with_reducible first | exact HB.out | apply below_alloc | apply pw_below_drewN | apply below_drew1) | exact HB.out)) hb); clear HB; have HB := n0_; clear n0_; (try clear hb); (try clear hb2); (try clear hk); (try clear hi)))
                  go_ret
                  exact ⟨by first | rfl | (simp [errW_none, errW_some] <;> rfl) | (simp [*, errW_none, errW_some] <;> rfl), by repeat (first | (with_reducible first | exact HB.out | apply below_alloc | apply pw_below_drewN | apply below_drew1) | exact HB.out)⟩

/-- THE ONE PURE STATEMENT of ossuarylaw04_CivilBack: yours. -/
def ossuarylaw04_CivilBack.Pure : Prop := ∀ (a0 : Int) (a1 : ByteArray), (Lit.int .i64 a0).wf = true → a1.size ≤ 140737488351232 → ∃ k, ossuarylaw04_CivilBack.f k a0 a1 = some true
theorem ossuarylaw04_CivilBack.walk (P : ossuarylaw04_CivilBack.Pure) (a0 : Int) (a1 : ByteArray) (w : World) (w0 : (Lit.int .i64 a0).wf = true) (w1 : a1.size ≤ 140737488351232) :
    Calls Try.prog 11 #[.int .i64 a0, .string a1] w fun e w' => e = .returned (.bool true) ∧ Below w.heap.size w w' := by
  obtain ⟨k, h⟩ := P a0 a1 w0 w1
  refine (ossuarylaw04_CivilBack.calls k a0 a1 true w h).mono ?_
  rintro e w' ⟨rfl, hd⟩
  exact ⟨rfl, hd⟩

-- NOT PRINTED: function 62 (policy_bounds)

-- NOT PRINTED: function 63 (policy_numbers)

/-! ### policy_Check: function 58 -/
-- HAND rounds=0 making=1
theorem blk_at (w : World) (o : Obj) (n : Nat) (h : n = w.heap.size) : (w.alloc o).heap[n]? = some o := by
  subst h
  exact heap_alloc_new w o
def bndsA : Array Value := #[.int .i64 1, .int .i64 1048576, .int .i64 0, .int .i64 1048576, .int .i64 0, .int .i64 1048576, .int .i64 0, .int .i64 1048576, .int .i64 0, .int .i64 1048576, .int .i64 1, .int .i64 1048576, .int .i64 1, .int .i64 1048576, .int .i64 1, .int .i64 64, .int .i64 100, .int .i64 1048576]
set_option maxHeartbeats 8000000 in
set_option maxRecDepth 100000 in
theorem policy_bounds.calls (w : World) :
    Calls Try.prog 62 #[] w fun e w' => e = .returned (.agg bndsA) ∧ Below w.heap.size w w' := by
  go_enter Try.func62, Try.ntmps62
  go_wp2
  exact bodyPost_ret (results_cell_row rfl _ _ w.heap.size 69 _ (0, 0) _ rfl (heap_alloc_new w _) Try.underlying69 rfl (by kernel_rfl)) rfl ⟨rfl, (Below.refl _ _).alloc (Nat.le_refl _) _⟩

def polA (a0 a1 a2 a3 a4 a5 a6 a7 a8 : Int) : Array Value := #[.int .i64 a0, .int .i64 a1, .int .i64 a2, .int .i64 a3, .int .i64 a4, .int .i64 a5, .int .i64 a6, .int .i64 a7, .int .i64 a8]
set_option maxHeartbeats 8000000 in
set_option maxRecDepth 100000 in
theorem policy_numbers.calls (a0 a1 a2 a3 a4 a5 a6 a7 a8 : Int) (w : World) :
    Calls Try.prog 63 #[.agg #[.int .i64 a0, .int .i64 a1, .int .i64 a2, .int .i64 a3, .int .i64 a4, .int .i64 a5, .int .i64 a6, .int .i64 a7, .int .i64 a8]] w fun e w' => e = .returned (.agg (polA a0 a1 a2 a3 a4 a5 a6 a7 a8)) ∧ Below w.heap.size w w' := by
  go_enter Try.func63, Try.ntmps63
  go_wp2
  exact bodyPost_ret (results_cell_row rfl _ _ (w.heap.size + 1) 71 _ (0, 0) _ rfl (blk_at _ _ _ (by simp)) Try.underlying71 rfl (by kernel_rfl)) rfl ⟨rfl, ((Below.refl _ _).alloc (Nat.le_refl _) _).alloc (by simp) _⟩

theorem cells9 {w : World} {g : Nat} {t : TypeId} {c0 c1 c2 c3 c4 c5 c6 c7 c8 : Value} (h : w.heap[g]? = some (.cells #[c0, c1, c2, c3, c4, c5, c6, c7, c8] t (0, 0))) :
    w.cell? ⟨g, 0, none⟩ = some c0 ∧ w.cell? ⟨g, 1, none⟩ = some c1 ∧ w.cell? ⟨g, 2, none⟩ = some c2 ∧ w.cell? ⟨g, 3, none⟩ = some c3 ∧ w.cell? ⟨g, 4, none⟩ = some c4 ∧ w.cell? ⟨g, 5, none⟩ = some c5 ∧ w.cell? ⟨g, 6, none⟩ = some c6 ∧ w.cell? ⟨g, 7, none⟩ = some c7 ∧ w.cell? ⟨g, 8, none⟩ = some c8 :=
  ⟨blk_cell h 0, blk_cell h 1, blk_cell h 2, blk_cell h 3, blk_cell h 4, blk_cell h 5, blk_cell h 6, blk_cell h 7, blk_cell h 8⟩
def polL (a0 a1 a2 a3 a4 a5 a6 a7 a8 : Int) : List Int := [a0, a1, a2, a3, a4, a5, a6, a7, a8]
def loL (i : Nat) : Int := [1, 0, 0, 0, 0, 1, 1, 1, 100].getD i 0
def hiL (i : Nat) : Int := [1048576, 1048576, 1048576, 1048576, 1048576, 1048576, 1048576, 64, 1048576].getD i 0
def chkL (l : List Int) : Nat → Nat → Int
  | 0, _ => 0
  | d + 1, i => if l.getD i 0 < loL i then 2 else if hiL i < l.getD i 0 then 2 else chkL l d (i + 1)
theorem bnd_lo {w : World} {g : Nat} (h : w.heap[g]? = some (.cells bndsA 69 (0, 0))) (i : Nat) (hi : i < 9) : w.cell? ⟨g, i * 2, none⟩ = some (.int .i64 (loL i)) := by
  rw [blk_cell h]
  match i, hi with
  | 0, _ => rfl
  | 1, _ => rfl
  | 2, _ => rfl
  | 3, _ => rfl
  | 4, _ => rfl
  | 5, _ => rfl
  | 6, _ => rfl
  | 7, _ => rfl
  | 8, _ => rfl
theorem bnd_hi {w : World} {g : Nat} (h : w.heap[g]? = some (.cells bndsA 69 (0, 0))) (i : Nat) (hi : i < 9) : w.cell? ⟨g, i * 2 + 1, none⟩ = some (.int .i64 (hiL i)) := by
  rw [blk_cell h]
  match i, hi with
  | 0, _ => rfl
  | 1, _ => rfl
  | 2, _ => rfl
  | 3, _ => rfl
  | 4, _ => rfl
  | 5, _ => rfl
  | 6, _ => rfl
  | 7, _ => rfl
  | 8, _ => rfl
def policy_Check.f (a0 a1 a2 a3 a4 a5 a6 a7 a8 : Int) : Option Int := some (chkL (polL a0 a1 a2 a3 a4 a5 a6 a7 a8) 9 0)

set_option maxHeartbeats 8000000 in
set_option maxRecDepth 100000 in
theorem policy_Check.calls (a0 a1 a2 a3 a4 a5 a6 a7 a8 r : Int) (w : World) (h : policy_Check.f a0 a1 a2 a3 a4 a5 a6 a7 a8 = some r) :
    Calls Try.prog 58 #[.agg #[.int .i64 a0, .int .i64 a1, .int .i64 a2, .int .i64 a3, .int .i64 a4, .int .i64 a5, .int .i64 a6, .int .i64 a7, .int .i64 a8]] w fun e w' => e = .returned (.int .i64 r) ∧ Below w.heap.size w w' := by
  have H := Aside0.mk (Option.some.inj h)
  clear h
  have hst := fun (W : World) => run_storeCells_new (P := Try.prog) W 69 #[.int .i64 0, .int .i64 0, .int .i64 0, .int .i64 0, .int .i64 0, .int .i64 0, .int .i64 0, .int .i64 0, .int .i64 0, .int .i64 0, .int .i64 0, .int .i64 0, .int .i64 0, .int .i64 0, .int .i64 0, .int .i64 0, .int .i64 0, .int .i64 0] bndsA (by kernel_rfl) rfl (by simp [bndsA, Value.oneCell'])
  have hm : ∀ (i : Nat), i < 9 → ∀ W : World, (Instr.index 71 (.agg (polA a0 a1 a2 a3 a4 a5 a6 a7 a8)) (.int .i64 i)).run Try.prog W = .ok (.int .i64 ((polL a0 a1 a2 a3 a4 a5 a6 a7 a8).getD i 0)) W := by
    intro i hi W
    match i, hi with
    | 0, _ => rfl
    | 1, _ => rfl
    | 2, _ => rfl
    | 3, _ => rfl
    | 4, _ => rfl
    | 5, _ => rfl
    | 6, _ => rfl
    | 7, _ => rfl
    | 8, _ => rfl
  have HM := Aside0.mk hm
  clear hm
  go_enter Try.func58, Try.ntmps58
  go_wp2_with (go_at_call 62; (with_reducible refine (policy_bounds.calls _).mono ?_); rintro e w1 ⟨rfl, hb1⟩; have B1 := Aside0.mk hb1; have hk := blk_below (blk_new w (.cells #[.int .i64 a0, .int .i64 a1, .int .i64 a2, .int .i64 a3, .int .i64 a4, .int .i64 a5, .int .i64 a6, .int .i64 a7, .int .i64 a8] 49 (0, 0))) hb1; have HK := Aside0.mk hk; have hk2 := blk_alloc hk (.cells bndsA 69 (0, 0)); clear hb1 hk; obtain ⟨h0, h1, h2, h3, h4, h5, h6, h7, h8⟩ := cells9 hk2; clear hk2)
  have HB1 := Aside0.mk (show Below w.heap.size w (w1.alloc (.cells bndsA 69 (0, 0))) from (((Below.refl _ w).alloc (Nat.le_refl _) _).trans (B1.out.mono (by simp))).alloc (by have := B1.out.size; simp at this; omega) _)
  have HQ := Aside0.mk (blk_new w1 (.cells bndsA 69 (0, 0)))
  clear HK B1
  refine (policy_numbers.calls a0 a1 a2 a3 a4 a5 a6 a7 a8 _).mono ?_
  rintro e w2 ⟨rfl, hb2⟩
  have HB2 := Aside0.mk (HB1.out.trans (hb2.mono HB1.out.size))
  have HQ2 := Aside0.mk (blk_below HQ.out hb2)
  clear h0 h1 h2 h3 h4 h5 h6 h7 h8 hb2 HQ HB1 hst
  go_wp2
  go_loop [9] (fun x9 => ∃ (i : Nat), x9 = .int .i64 i ∧ i ≤ 9 ∧ Aside0 (chkL (polL a0 a1 a2 a3 a4 a5 a6 a7 a8) (9 - i) i = r)) (fun x9 => 9 - (intOf x9).toNat)
  case atStart => exact ⟨0, rfl, by omega, H⟩
  case round =>
    clear H
    obtain ⟨i, rfl, hi, H⟩ := hrel
    by_cases hlt : i < 9
    · have hm := HM.out i hlt
      have hlo := bnd_lo HQ2.out i hlt
      have hhi := bnd_hi HQ2.out i hlt
      have H1 := H.out
      rw [show 9 - i = (9 - (i + 1)) + 1 from by omega, chkL] at H1
      generalize (polL a0 a1 a2 a3 a4 a5 a6 a7 a8).getD i 0 = x at *
      by_cases c1 : x < loL i
      · have c1b : decide (x < loL i) = true := by simpa using c1
        rw [if_pos c1] at H1
        have H2 := Aside0.mk H1
        clear H1 H
        go_wp2
        go_ret
        have e := H2.out
        subst e
        exact ⟨rfl, HB2.out⟩
      · have c1b : decide (x < loL i) = false := by simpa using c1
        by_cases c2 : hiL i < x
        · have c2b : decide (hiL i < x) = true := by simpa using c2
          rw [if_neg c1, if_pos c2] at H1
          have H2 := Aside0.mk H1
          clear H1 H
          go_wp2
          go_ret
          have e := H2.out
          subst e
          exact ⟨rfl, HB2.out⟩
        · have c2b : decide (hiL i < x) = false := by simpa using c2
          rw [if_neg c1, if_neg c2] at H1
          have H2 := Aside0.mk H1
          clear H1 H
          go_wp2
          go_round
          case rel => exact ⟨i + 1, by go_num, by omega, H2⟩
          case measure => simp [intOf]; omega
    · obtain rfl : i = 9 := by omega
      have H1 := H.out
      rw [Nat.sub_self, chkL] at H1
      have H2 := Aside0.mk H1
      clear H1 H
      go_wp2
      go_ret
      have e := H2.out
      subst e
      exact ⟨rfl, HB2.out⟩


/-! ### policy_Lag: function 59 -/
-- HAND rounds=0 making=1
set_option maxHeartbeats 8000000 in
set_option maxRecDepth 100000 in
theorem policy_Lag.callsA (a0 a1 a2 a3 a4 a5 a6 a7 a8 t r1 : Int) (r2 : Bool) (w : World) (h : (if t = 1 then (a1, true) else if t = 2 then (a2, true) else if t = 3 then (a3, true) else (0, false)) = (r1, r2)) :
    Calls Try.prog 59 #[.agg #[.int .i64 a0, .int .i64 a1, .int .i64 a2, .int .i64 a3, .int .i64 a4, .int .i64 a5, .int .i64 a6, .int .i64 a7, .int .i64 a8], .int .i64 t] w fun e w' => e = .returned (.tuple #[.int .i64 r1, .bool r2]) ∧ Below w.heap.size w w' := by
  by_cases c1 : t = 1
  · subst c1
    simp at h
    obtain ⟨rfl, rfl⟩ := h
    go_enter Try.func59, Try.ntmps59
    go_wp2
    go_ret2
    exact ⟨rfl, ((Below.refl _ _).alloc (Nat.le_refl _) _).alloc (by simp) _⟩
  · by_cases c2 : t = 2
    · subst c2
      simp at h
      obtain ⟨rfl, rfl⟩ := h
      clear c1
      go_enter Try.func59, Try.ntmps59
      go_wp2
      go_ret2
      exact ⟨rfl, ((Below.refl _ _).alloc (Nat.le_refl _) _).alloc (by simp) _⟩
    · by_cases c3 : t = 3
      · subst c3
        simp at h
        obtain ⟨rfl, rfl⟩ := h
        clear c1 c2
        go_enter Try.func59, Try.ntmps59
        go_wp2
        go_ret2
        exact ⟨rfl, ((Below.refl _ _).alloc (Nat.le_refl _) _).alloc (by simp) _⟩
      · rw [if_neg c1, if_neg c2, if_neg c3] at h
        simp only [Prod.mk.injEq] at h
        obtain ⟨rfl, rfl⟩ := h
        by_cases d1 : t < 1
        · have d1b : decide (t < 1) = true := by simpa using d1
          clear c1 c2 c3
          go_enter Try.func59, Try.ntmps59
          go_wp2
          go_ret2
          exact ⟨rfl, ((Below.refl _ _).alloc (Nat.le_refl _) _).alloc (by simp) _⟩
        · have d1b : decide (t < 1) = false := by simpa using d1
          have d2b : decide (3 < t) = true := by simp; omega
          clear c1 c2 c3
          go_enter Try.func59, Try.ntmps59
          go_wp2
          go_ret2
          exact ⟨rfl, ((Below.refl _ _).alloc (Nat.le_refl _) _).alloc (by simp) _⟩

def policy_Lag.f (a0 a1 a2 a3 a4 a5 a6 a7 a8 t : Int) : Option (Int × Bool) := some (if t = 1 then (a1, true) else if t = 2 then (a2, true) else if t = 3 then (a3, true) else (0, false))
theorem policy_Lag.calls (a0 a1 a2 a3 a4 a5 a6 a7 a8 t r1 : Int) (r2 : Bool) (w : World) (h : policy_Lag.f a0 a1 a2 a3 a4 a5 a6 a7 a8 t = some (r1, r2)) :
    Calls Try.prog 59 #[.agg #[.int .i64 a0, .int .i64 a1, .int .i64 a2, .int .i64 a3, .int .i64 a4, .int .i64 a5, .int .i64 a6, .int .i64 a7, .int .i64 a8], .int .i64 t] w fun e w' => e = .returned (.tuple #[.int .i64 r1, .bool r2]) ∧ Below w.heap.size w w' :=
  policy_Lag.callsA a0 a1 a2 a3 a4 a5 a6 a7 a8 t r1 r2 w (Option.some.inj h)

end Go.Proofs.Ytncmmnbpkeemmaa.P
