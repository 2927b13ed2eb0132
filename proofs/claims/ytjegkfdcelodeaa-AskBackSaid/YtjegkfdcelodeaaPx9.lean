-- laid by wip/tools/xprint.py of this claim's session (the kit's print.py, and texts of our own); Lean checks it
import Derived.Test.YtjegkfdcelodeaaPx0
import Derived.Test.YtjegkfdcelodeaaPx4
namespace Go.Proofs.Ytjegkfdcelodeaa.P
open Go.RowKit Go.Proofs.YtjegkfdcelodeaaW.PrintWords Go.Proofs.YtjegkfdcelodeaaW.PrintLast Go.Proofs.YtjegkfdcelodeaaW.PrintMore
attribute [local go_sem] max2_int min2_int max_two min_two max_three min_three max_four min_four   -- for this text's walks alone
set_option linter.unusedVariables false
set_option linter.unusedSimpArgs false

-- NOT PRINTED: function 66 (bytes_Clone)

-- NOT PRINTED: function 28 (pack_Writer_Bytes)

/-! ### policy_Encode: function 23 -/
-- HAND rounds=0 making=1
def encL : List Int → Nat → Nat → List Int
  | _, 0, _ => []
  | l, d + 1, i => Wr.numB (l.getD i 0) ++ encL l d (i + 1)
def policy_Encode.f (a0 a1 a2 a3 a4 a5 a6 a7 a8 : Int) : Option (List Int × Int) := if chkL (polL a0 a1 a2 a3 a4 a5 a6 a7 a8) 9 0 = 0 then some (encL (polL a0 a1 a2 a3 a4 a5 a6 a7 a8) 9 0, 0) else some ([], chkL (polL a0 a1 a2 a3 a4 a5 a6 a7 a8) 9 0)
theorem chk_bd (l : List Int) : ∀ d i, chkL l d i = 0 → i + d = 9 → ∀ j, i ≤ j → j < 9 → loL j ≤ l.getD j 0 ∧ l.getD j 0 ≤ hiL j
  | 0, i, _, h, j, h1, h2 => by omega
  | d + 1, i, h, hd, j, h1, h2 => by
    rw [chkL] at h
    split at h
    · exact absurd h (by decide)
    · split at h
      · exact absurd h (by decide)
      · by_cases e : j = i
        · subst e; omega
        · exact chk_bd l d (i + 1) h (by omega) j (by omega) h2
theorem loL_nn (i : Nat) (h : i < 9) : 0 ≤ loL i ∧ hiL i ≤ 1048576 := by
  match i, h with
  | 0, _ => decide
  | 1, _ => decide
  | 2, _ => decide
  | 3, _ => decide
  | 4, _ => decide
  | 5, _ => decide
  | 6, _ => decide
  | 7, _ => decide
  | 8, _ => decide
open Wr in
set_option maxHeartbeats 8000000 in
set_option maxRecDepth 100000 in
theorem policy_Encode.calls (a0 a1 a2 a3 a4 a5 a6 a7 a8 : Int) (r1 : List Int) (r2 : Int) (w : World) (h : policy_Encode.f a0 a1 a2 a3 a4 a5 a6 a7 a8 = some (r1, r2)) :
    Calls Try.prog 23 #[.agg #[.int .i64 a0, .int .i64 a1, .int .i64 a2, .int .i64 a3, .int .i64 a4, .int .i64 a5, .int .i64 a6, .int .i64 a7, .int .i64 a8]] w fun e w' => ∃ v0_ : Value, e = .returned (.tuple #[v0_, .int .i64 r2]) ∧ Kd.R (Kd.int .u8) 5 w' w.heap.size (fun _ => True) v0_ r1 ∧ Below w.heap.size w w' := by
  unfold policy_Encode.f at h
  have hmf : ∀ (fn : Fn) (first cap : Array Value) (w : World), (Instr.makeFunc fn first cap).run Try.prog w = .ok (.func fn first cap) w := fun _ _ _ _ => rfl
  have hm : ∀ (i : Nat), i < 9 → ∀ W : World, (Instr.index 93 (.agg (polA a0 a1 a2 a3 a4 a5 a6 a7 a8)) (.int .i64 i)).run Try.prog W = .ok (.int .i64 ((polL a0 a1 a2 a3 a4 a5 a6 a7 a8).getD i 0)) W := by
    intro i hi W
    match i, hi with
    | 0, _ => rfl
    | 1, _ => rfl
    | 2, _ => rfl
    | 3, _ => rfl
    | 4, _ => rfl
    | 5, _ => rfl
    | 6, _ => rfl
    | 7, _ => rfl
    | 8, _ => rfl
  have HM := Aside0.mk hm
  clear hm
  have bd := chk_bd (polL a0 a1 a2 a3 a4 a5 a6 a7 a8) 9 0
  have HK := Aside0.mk (policy_Check.calls a0 a1 a2 a3 a4 a5 a6 a7 a8 _ · rfl)
  generalize hl : polL a0 a1 a2 a3 a4 a5 a6 a7 a8 = L at *
  generalize hc : chkL L 9 0 = c at *
  by_cases c0 : c = 0
  · rw [if_pos c0] at h
    subst c0
    obtain ⟨rfl, rfl⟩ := Prod.mk.inj (Option.some.inj h)
    clear h
    have bd2 : ∀ j, j < 9 → 0 ≤ L.getD j 0 ∧ L.getD j 0 ≤ 1048576 := fun j hj => by have := bd rfl rfl j (by omega) hj; have := loL_nn j hj; omega
    have BD := Aside0.mk bd2
    clear bd bd2
    go_enter Try.func23, Try.ntmps23
    go_wp2_with fail
    refine (HK.out _).mono ?_
    rintro e w1 ⟨rfl, hb1⟩
    have hk := blk_below (blk_new w (.cells #[.int .i64 a0, .int .i64 a1, .int .i64 a2, .int .i64 a3, .int .i64 a4, .int .i64 a5, .int .i64 a6, .int .i64 a7, .int .i64 a8] 23 (0, 0))) hb1
    have HB1 := Aside0.mk (show Below w.heap.size w w1 from ((Below.refl _ w).alloc (Nat.le_refl _) _).trans (hb1.mono (by simp)))
    have HL1 := Aside0.mk (blk_lt hk)
    have hk1 := blk_alloc hk (.cells #[.slice none 0 0] 40 (0, 0))
    obtain ⟨h0, h1, h2, h3, h4, h5, h6, h7, h8⟩ := cells9 hk1
    clear hk hb1 HK hk1
    go_wp2_with fail
    refine (policy_numbers.calls a0 a1 a2 a3 a4 a5 a6 a7 a8 _).mono ?_
    rintro e w2 ⟨rfl, hb2⟩
    have HB2 := Aside0.mk ((HB1.out.alloc HB1.out.size (.cells #[.slice none 0 0] 40 (0, 0))).trans (hb2.mono (by have := HB1.out.size; simp; omega)))
    have HW2 := Aside0.mk (show WrS w.heap.size w1.heap.size (.slice none 0 0) [] w2 from ⟨blk_below (blk_new w1 _) hb2, Kd.R_nil _ _ _ _ _⟩)
    have HG := Aside0.mk HB1.out.size
    clear h0 h1 h2 h3 h4 h5 h6 h7 h8 hb2 HB1 HL1
    go_wp2_with fail
    go_loopw [20] (fun x20 wr => ∃ (i : Nat) (l1 : List Int) (v1 : Value), x20 = .int .i64 i ∧ i ≤ 9 ∧ l1.length ≤ 10 * i ∧ Aside0 (l1 ++ encL L (9 - i) i = encL L 9 0) ∧ Aside0 (WrS w.heap.size w1.heap.size v1 l1 wr) ∧ Aside0 (Below w.heap.size w wr)) (fun x20 _ => 9 - (intOf x20).toNat)
    case atStart => exact ⟨0, [], _, rfl, by omega, by simp, ⟨rfl⟩, HW2, HB2⟩
    case round =>
      clear HW2 HB2
      obtain ⟨i, l1, v1, rfl, hi, hl1, HE, HW, HB⟩ := hrel
      by_cases hlt : i < 9
      · have hm := HM.out i hlt
        have hbd := BD.out i hlt
        have HE1 := HE.out
        rw [show 9 - i = (9 - (i + 1)) + 1 from by omega, encL] at HE1
        have HE2 := Aside0.mk HE1
        clear HE1 HE
        generalize L.getD i 0 = x at *
        have hx : IntKind.u64.wrap x = x := by rw [wrap_u64]; omega
        go_wp2_with fail
        try rw [hx]
        refine (Writer_Num.calls w.heap.size w1.heap.size v1 l1 x w _ (by omega) (by omega) (by omega) HB.out HG.out HW.out).mono ?_
        rintro e w3 ⟨v3, rfl, hw3, hb3, -⟩
        have HW3 := Aside0.mk hw3
        have HB3 := Aside0.mk hb3
        have hl3 : (l1 ++ numB x).length ≤ 10 * (i + 1) := by have := numB_len x 10 (by omega) (by omega); simp; omega
        have HE3 := Aside0.mk (show (l1 ++ numB x) ++ encL L (9 - (i + 1)) (i + 1) = encL L 9 0 by rw [List.append_assoc]; exact HE2.out)
        clear hw3 hb3 HE2 HW HB hm hx hbd
        go_wp2
        go_roundw
        case rel => exact ⟨i + 1, _, _, by go_num, by omega, hl3, HE3, HW3, HB3⟩
        case measure => simp [intOf]; omega
      · obtain rfl : i = 9 := by omega
        have HE1 := Aside0.mk (show l1 = encL L 9 0 by have := HE.out; simpa [encL] using this)
        clear HE
        go_wp2_with fail
        refine (Bytes.calls w.heap.size w1.heap.size v1 l1 _ (by omega) HW.out).mono ?_
        rintro e w3 ⟨v3, rfl, ho, hb3⟩
        have HO := Aside0.mk (Kd.R_lower ho HB.out.size)
        have HB3 := Aside0.mk (HB.out.trans (hb3.mono HB.out.size))
        clear ho hb3 HW HB
        go_wp2
        go_ret2
        refine ⟨_, rfl, ?_, HB3.out⟩
        rw [← HE1.out]
        exact HO.out
  · rw [if_neg c0] at h
    obtain ⟨rfl, rfl⟩ := Prod.mk.inj (Option.some.inj h)
    clear h
    have c0b : (c != 0) = true := bne_iff_ne.mpr c0
    go_enter Try.func23, Try.ntmps23
    go_wp2_with fail
    refine (HK.out _).mono ?_
    rintro e w1 ⟨rfl, hb1⟩
    have HB1 := Aside0.mk (show Below w.heap.size w w1 from ((Below.refl _ w).alloc (Nat.le_refl _) _).trans (hb1.mono (by simp)))
    clear hb1 HK
    go_wp2
    go_ret2
    exact ⟨_, rfl, Kd.R_nil _ _ _ _ _, HB1.out⟩

/-! ### ossuaryref01_Num: function 29 -/
def ossuaryref01_Num.l0 : Nat → Int → List Int → Option (List Int)
  | 0, _, _ => none
  | k + 1, x0, x3 => if x0 > 127 then (if x3.length < 140737488355328 then (ossuaryref01_Num.l0 k (IntKind.u64.wrap (Int.tdiv x0 128)) (x3 ++ [(IntKind.u64.wrap ((Int.tmod x0 128) + 128)) % 256])) else (none)) else (if x3.length < 140737488355328 then (some (x3 ++ [(x0) % 256])) else (none))
def ossuaryref01_Num.f (k : Nat) (a0 : Int) : Option (List Int) := ossuaryref01_Num.l0 k a0 ([] : List Int)
theorem ossuaryref01_Num.mono_l : ∀ k, (∀ y0 y1, LeO (ossuaryref01_Num.l0 k y0 y1) (ossuaryref01_Num.l0 (k + 1) y0 y1))
  | 0 => fun _ _ r h => by simp [ossuaryref01_Num.l0] at h
  | k + 1 => by
    have ih0 := ossuaryref01_Num.mono_l k
    · intro y0 y1
      unfold ossuaryref01_Num.l0
      repeat' first
      | (with_reducible exact ih0 _ _)
      | (with_reducible exact LeO.refl _)
      | (with_reducible exact LeO.none _)
      | (with_reducible refine LeO.ite ?_ ?_)
      | (with_reducible refine LeO.bind ?_ (fun _ => ?_))
      | exact ih0 _ _
      | exact LeO.none _
      | refine LeO.ite ?_ ?_
      | refine LeO.bind ?_ (fun _ => ?_)
theorem ossuaryref01_Num.mono : ∀ a0 k, LeO (ossuaryref01_Num.f k a0) (ossuaryref01_Num.f (k + 1) a0) := by
  intro a0 k
  have ih0 := ossuaryref01_Num.mono_l k
  unfold ossuaryref01_Num.f
  repeat' first
      | (with_reducible exact ih0 _ _)
      | (with_reducible exact LeO.refl _)
      | (with_reducible exact LeO.none _)
      | (with_reducible refine LeO.ite ?_ ?_)
      | (with_reducible refine LeO.bind ?_ (fun _ => ?_))
      | exact ih0 _ _
      | exact LeO.none _
      | refine LeO.ite ?_ ?_
      | refine LeO.bind ?_ (fun _ => ?_)
set_option maxHeartbeats 8000000 in
set_option maxRecDepth 100000 in
theorem ossuaryref01_Num.calls (k : Nat) (a0 : Int) (r : List Int) (w : World) (h : ossuaryref01_Num.f k a0 = some r) :
    Calls Try.prog 29 #[.int .u64 a0] w fun e w' => ∃ v0_ : Value, e = .returned (v0_) ∧ Kd.R (Kd.int .u8) 5 w' w.heap.size (fun _ => True) v0_ r ∧ Below w.heap.size w w' := by
  have HB := Aside0.mk (Below.refl w.heap.size w)
  have H : (ossuaryref01_Num.l0 k a0 ([] : List Int)) = some r := h
  clear h
  have H' := Aside0.mk H
  clear H
  go_enter Try.func29, Try.ntmps29
  go_wp2
  go_loopg [0, 3] k (fun kq v0 v3 w' => ∃ (x0_1 : Int) (x3_1 : List Int), v0 = .int .u64 x0_1 ∧ Aside0 (ossuaryref01_Num.l0 kq x0_1 x3_1 = some r) ∧ Aside0 (kq ≤ k) ∧ Aside0 (Kd.R (Kd.int .u8) 5 w' w.heap.size (fun _ => True) v3 x3_1) ∧ Aside0 (Below w.heap.size w w'))
  case atStart => exact ⟨(a0), (([] : List Int)), (by first | rfl | (simp; done) | (simp [*]; done)), H', ⟨Nat.le_refl _⟩, ⟨by first | exact Kd.R_nil _ _ _ _ _ | exact Kd.N_nil _ _ _ _ _ | exact Kd.V_nil _ _ _ _ _ | exact Kd.Q_nil _ _ _ _ _ | exact Kd.S_nil _ _ _ _ _⟩, ⟨by repeat (first | (with_reducible first | exact HB.out | apply below_alloc | apply pw_below_drewN | apply below_drew1) | exact HB.out)⟩⟩
  case round =>
    clear H'
    obtain ⟨x0_1, x3_1, rfl, HA, HK1, HO_3, HB⟩ := hrel
    cases gk with
    | zero => exact absurd HA.out (by simp [ossuaryref01_Num.l0])
    | succ k1 =>
      have H := HA.out
      clear HA
      simp only [ossuaryref01_Num.l0] at H
      by_cases c2 : x0_1 > 127
      · rw [if_pos c2] at H
        have c2b0 : decide (127 < x0_1) = true := decide_eq_true c2
        clear c2
        by_cases c3 : x3_1.length < 140737488355328
        · rw [if_pos c3] at H
          have LMc3 := Aside0.mk c3
          clear c3
          obtain ⟨y152, hy152⟩ : ∃ y_ : List Int, y_ = (x3_1 ++ [(IntKind.u64.wrap ((Int.tmod x0_1 128) + 128)) % 256]) := ⟨_, rfl⟩
          replace H : (ossuaryref01_Num.l0 k1 (IntKind.u64.wrap (Int.tdiv x0_1 128)) y152) = some r := by first | (rw [hy152]; with_reducible exact H) | (have H2_ := (Option.bind_some _ _).symm.trans H; rw [hy152]; with_reducible exact H2_) | (have H2_ := (Option.bind_some _ _).symm.trans H; with_reducible exact H2_) | with_reducible exact H | (rw [hy152]; exact H) | exact H
          have Ny152 := Aside0.mk hy152
          clear hy152
          have H' := Aside0.mk H
          clear H
          go_wp2_with (first | ((with_reducible refine gate_builtin (b := .append) (xs := #[.tmp 6, .tmp 11]) rfl ?_); at_builtin; refine Kd.R_append (Kd.int .u8) (w0 := w) w.heap.size rfl (.tmp 6) (.tmp 11) 32 5 (.int .u8 0) 1 rfl Try.underlying32 info5 rfl (by decide) (by omega) u3 x3_1 ((IntKind.u64.wrap ((Int.tmod x0_1 128) + 128)) % 256) [.int .u8 ((IntKind.u64.wrap ((Int.tmod x0_1 128) + 128)) % 256)] (fun _ => True) (fun _ => False) rfl rfl ?aP (fun _ hk => hk.elim) ?aF ?aO ?aB ?aS ?aL ?_; (case aP => exact rfl); (case aB => exact (by repeat (first | (with_reducible first | exact HB.out | apply below_alloc | apply pw_below_drewN | apply below_drew1) | exact HB.out))); (case aF => exact (fun _ _ => trivial)); (case aO => exact (by (with_reducible repeat (first | apply Kd.R_alloc | apply Kd.R_drewN | apply Kd.R_drew)); exact HO_3.out)); (case aS => exact (below_size (by repeat (first | (with_reducible first | exact HB.out | apply below_alloc | apply pw_below_drewN | apply below_drew1) | exact HB.out)))); (case aL => have := LMc3.out; omega); intro v153 w4 ho hb hg hat; rw [← Ny152.out] at ho; have n0_ := Aside0.mk (hb); have n1_ := Aside0.mk (ho); clear HB; clear HO_3; have HB := n0_; have HO154 := n1_; clear n0_ n1_; clear ho hb hg hat))
          go_roundg k1
          case measure => have := HK1.out; omega
          case rel => exact ⟨(IntKind.u64.wrap (Int.tdiv x0_1 128)), (y152), (by first | rfl | (simp; done) | (simp [*]; done)), H', ⟨by have := HK1.out; omega⟩, ⟨by (with_reducible repeat (first | apply Kd.R_alloc | apply Kd.R_drewN | apply Kd.R_drew)); exact HO154.out⟩, ⟨by repeat (first | (with_reducible first | exact HB.out | apply below_alloc | apply pw_below_drewN | apply below_drew1) | exact HB.out)⟩⟩
        · rw [if_neg c3] at H
          exact absurd H (by simp)
      · rw [if_neg c2] at H
        have c2b0 : decide (127 < x0_1) = false := decide_eq_false c2
        clear c2
        by_cases c5 : x3_1.length < 140737488355328
        · rw [if_pos c5] at H
          have LMc5 := Aside0.mk c5
          clear c5
          obtain ⟨y155, hy155⟩ : ∃ y_ : List Int, y_ = (x3_1 ++ [(x0_1) % 256]) := ⟨_, rfl⟩
          replace H : (some y155) = some r := by first | (rw [hy155]; with_reducible exact H) | (have H2_ := (Option.bind_some _ _).symm.trans H; rw [hy155]; with_reducible exact H2_) | (have H2_ := (Option.bind_some _ _).symm.trans H; with_reducible exact H2_) | with_reducible exact H | (rw [hy155]; exact H) | exact H
          have Ny155 := Aside0.mk hy155
          clear hy155
          obtain rfl := Option.some.inj H
          go_wp2_with (first | ((with_reducible refine gate_builtin (b := .append) (xs := #[.tmp 15, .tmp 18]) rfl ?_); at_builtin; refine Kd.R_append (Kd.int .u8) (w0 := w) w.heap.size rfl (.tmp 15) (.tmp 18) 32 5 (.int .u8 0) 1 rfl Try.underlying32 info5 rfl (by decide) (by omega) u3 x3_1 ((x0_1) % 256) [.int .u8 ((x0_1) % 256)] (fun _ => True) (fun _ => False) rfl rfl ?aP (fun _ hk => hk.elim) ?aF ?aO ?aB ?aS ?aL ?_; (case aP => exact rfl); (case aB => exact (by repeat (first | (with_reducible first | exact HB.out | apply below_alloc | apply pw_below_drewN | apply below_drew1) | exact HB.out))); (case aF => exact (fun _ _ => trivial)); (case aO => exact (by (with_reducible repeat (first | apply Kd.R_alloc | apply Kd.R_drewN | apply Kd.R_drew)); exact HO_3.out)); (case aS => exact (below_size (by repeat (first | (with_reducible first | exact HB.out | apply below_alloc | apply pw_below_drewN | apply below_drew1) | exact HB.out)))); (case aL => have := LMc5.out; omega); intro v156 w6 ho hb hg hat; rw [← Ny155.out] at ho; have n0_ := Aside0.mk (hb); have n1_ := Aside0.mk (ho); clear HB; clear HO_3; have HB := n0_; have HO157 := n1_; clear n0_ n1_; clear ho hb hg hat))
          go_ret
          exact ⟨_, by first | rfl | (simp [errW_none, errW_some] <;> rfl) | (simp [*, errW_none, errW_some] <;> rfl), by (with_reducible repeat (first | apply Kd.R_alloc | apply Kd.R_drewN | apply Kd.R_drew)); exact HO157.out, by repeat (first | (with_reducible first | exact HB.out | apply below_alloc | apply pw_below_drewN | apply below_drew1) | exact HB.out)⟩
        · rw [if_neg c5] at H
          exact absurd H (by simp)

end Go.Proofs.Ytjegkfdcelodeaa.P
