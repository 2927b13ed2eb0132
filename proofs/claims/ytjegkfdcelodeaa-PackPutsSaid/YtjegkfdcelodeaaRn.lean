import Derived.Test.YtjegkfdcelodeaaRd
namespace Go.Proofs.Ytjegkfdcelodeaa.P
open Go.RowKit Go.Proofs.YtjegkfdcelodeaaW.PrintWords Go.Proofs.YtjegkfdcelodeaaW.PrintLast Go.Proofs.YtjegkfdcelodeaaW.PrintMore
attribute [local go_sem] max2_int min2_int max_two min_two max_three min_three max_four min_four
set_option linter.unusedVariables false
set_option linter.unusedSimpArgs false
namespace Wr
set_option maxHeartbeats 8000000 in
set_option maxRecDepth 100000 in
theorem bad.calls (B g : Nat) (l : List Int) (f : Int) (w0 w : World) (hB : Below B w0 w) (hg : B ≤ g) (hR : RdP g l f w) :
    Calls Try.prog 73 #[.pointer (some ⟨g, 0, none⟩)] w fun e w' => e = .returned (.tuple #[]) ∧ RdP g l (if f = 0 then 4 else f) w' ∧ Below B w0 w' ∧ Far w w' (fun k => k = g) := by
  obtain ⟨A, c, hR⟩ := hR
  have hc0 := hR.c0
  have hc1 := hR.c1
  have hf0 := hR.f0
  have hf1 := hR.f1
  have HR := Aside0.mk hR
  have HB := Aside0.mk hB
  clear hR hB
  by_cases cf : f = 0
  · subst cf
    go_enter Try.func73, Try.ntmps73
    go_wp2
    go_end0
    exact ⟨rfl, ⟨_, _, HR.out.setF 4⟩, HB.out.setCell hg _, (Far.refl w (fun k => k = g)).setCell (p := ⟨g, 1, none⟩) (.inr rfl) _⟩
  · have cfb : (f == 0) = false := beq_eq_false_iff_ne.mpr cf
    go_enter Try.func73, Try.ntmps73
    go_wp2
    go_end0
    exact ⟨rfl, ⟨_, _, HR.out⟩, HB.out, Far.refl w _⟩
set_option maxHeartbeats 8000000 in
set_option maxRecDepth 100000 in
theorem bad_nil.calls (w : World) :
    Calls Try.prog 73 #[.pointer none] w fun e w' => e = .returned (.tuple #[]) ∧ Below w.heap.size w w' := by
  have HB := Aside0.mk (Below.refl w.heap.size w)
  go_enter Try.func73, Try.ntmps73
  go_wp2
  go_end0
  exact ⟨rfl, HB.out⟩
/-- What a number's groups say: its value, what is left, the fault. -/
def rdNum : Nat → Nat → Int → List Int → Int × List Int × Int
  | 0, _, _, l => (0, l, 4)
  | _ + 1, _, _, [] => (0, [], 3)
  | d + 1, i, n, c :: t => if i = 9 ∧ 1 < c % 128 then (0, t, 4) else if c < 128 ∧ c % 128 = 0 ∧ 0 < i then (0, t, 4) else if c < 128 then (n + c % 128 * 128 ^ i, t, 0) else rdNum d (i + 1) (n + c % 128 * 128 ^ i) t
theorem andnot128 (n : Int) (h0 : 0 ≤ n) (h1 : n < 256) : Go.bits .andNot .u8 n 128 = n % 128 := by
  have key : ∀ m : Fin 256, Go.bits .andNot .u8 (m.val : Int) 128 = (m.val : Int) % 128 := by decide +kernel
  have h := key ⟨n.toNat, by omega⟩
  have e : ((n.toNat : Nat) : Int) = n := by omega
  simp only [e] at h
  exact h
theorem or_nat (M D k : Nat) (hM : M < 2 ^ k) (hlt : D * 2 ^ k + M < 18446744073709551616) : Go.bits .or .u64 (M : Int) ((D * 2 ^ k : Nat) : Int) = ((M + D * 2 ^ k : Nat) : Int) := by
  simp only [Go.bits]
  rw [wrap_u64]
  show (((BitVec.ofInt 64 (M : Int) ||| BitVec.ofInt 64 ((D * 2 ^ k : Nat) : Int)).toNat : Nat) : Int) % 18446744073709551616 = _
  rw [BitVec.toNat_or, BitVec.toNat_ofInt, BitVec.toNat_ofInt]
  have e1 : ((M : Int) % ((2 ^ 64 : Nat) : Int)).toNat = M := by omega
  have e2 : (((D * 2 ^ k : Nat) : Int) % ((2 ^ 64 : Nat) : Int)).toNat = D * 2 ^ k := by
    generalize D * 2 ^ k = y at *
    omega
  rw [e1, e2, Nat.or_comm, Nat.mul_comm, ← Nat.two_pow_add_eq_or_of_lt hM]
  rw [Nat.mul_comm (2 ^ k) D]
  generalize D * 2 ^ k = y at *
  omega
theorem or_grp (i : Nat) (m d : Int) (hi : i < 10) (m0 : 0 ≤ m) (m1 : m < 128 ^ i) (d0 : 0 ≤ d) (d1 : d < 128) (d9 : i = 9 → d ≤ 1) : Go.bits .or .u64 m (IntKind.u64.wrap (d * 2 ^ (7 * i))) = m + d * 128 ^ i ∧ 0 ≤ m + d * 128 ^ i ∧ m + d * 128 ^ i < 128 ^ (i + 1) := by
  have hp : ((128 : Int) ^ i) = ((2 ^ (7 * i) : Nat) : Int) := by rw [Nat.pow_mul]; push_cast; rfl
  have hp2 : ((2 : Int) ^ (7 * i)) = ((2 ^ (7 * i) : Nat) : Int) := by push_cast; rfl
  have hb : (d + 1) * 128 ^ i ≤ 18446744073709551616 := by
    have : i = 0 ∨ i = 1 ∨ i = 2 ∨ i = 3 ∨ i = 4 ∨ i = 5 ∨ i = 6 ∨ i = 7 ∨ i = 8 ∨ i = 9 := by omega
    rcases this with h | h | h | h | h | h | h | h | h | h <;> subst h <;> simp at d9 ⊢ <;> omega
  have hs : (128 : Int) ^ (i + 1) = 128 * 128 ^ i := by rw [Int.pow_succ, Int.mul_comm]
  have h127 : d * 128 ^ i ≤ 127 * 128 ^ i := Int.mul_le_mul_of_nonneg_right (by omega) (by rw [hp]; omega)
  have hd0 : 0 ≤ d * 128 ^ i := Int.mul_nonneg d0 (by rw [hp]; omega)
  rw [Int.add_mul, Int.one_mul] at hb
  refine ⟨?_, by omega, by rw [hs]; omega⟩
  obtain ⟨M, rfl⟩ := Int.eq_ofNat_of_zero_le m0
  obtain ⟨D, rfl⟩ := Int.eq_ofNat_of_zero_le d0
  rw [hp2]
  rw [hp] at m1 hb hd0 ⊢
  have hcast : ((D : Int) * ((2 ^ (7 * i) : Nat) : Int)) = ((D * 2 ^ (7 * i) : Nat) : Int) := by push_cast; rfl
  rw [hcast] at hb hd0 ⊢
  have hM : M < 2 ^ (7 * i) := by omega
  have hlt : D * 2 ^ (7 * i) + M < 18446744073709551616 := by omega
  rw [wrap_u64, show (((D * 2 ^ (7 * i) : Nat) : Int)) % 18446744073709551616 = ((D * 2 ^ (7 * i) : Nat) : Int) by omega, or_nat M D (7 * i) hM hlt]
  omega
def RdR (B g : Nat) (r : Int × List Int × Int) (w0 w : World) (e : Ending) (w' : World) : Prop := e = .returned (.int .u64 r.1) ∧ RdP g r.2.1 r.2.2 w' ∧ Below B w0 w' ∧ Far w w' (fun k => k = g)
set_option maxHeartbeats 8000000 in
set_option maxRecDepth 100000 in
theorem Reader_Num.calls (B g : Nat) (l : List Int) (f : Int) (w0 w : World) (hl : ∀ x ∈ l, 0 ≤ x ∧ x < 256) (hB : Below B w0 w) (hg : B ≤ g) (hR : RdP g l f w) :
    Calls Try.prog 48 #[.pointer (some ⟨g, 0, none⟩)] w (RdR B g (if f = 0 then rdNum 10 0 0 l else (0, l, f)) w0 w) := by
  have hmf : ∀ (fn : Fn) (first cap : Array Value) (w : World), (Instr.makeFunc fn first cap).run Try.prog w = .ok (.func fn first cap) w := fun _ _ _ _ => rfl
  have HR := Aside0.mk hR
  have HB := Aside0.mk hB
  clear hR hB
  generalize hr : (if f = 0 then rdNum 10 0 0 l else (0, l, f)) = r
  have Hr := Aside0.mk hr
  clear hr
  go_enter Try.func48, Try.ntmps48
  go_wp2
  go_step3
  go_wp2
  go_step3
  go_wp2
  go_loopw [10, 2] (fun x10 x2 wr => ∃ (i : Nat) (m : Int) (l1 : List Int) (f1 : Int), x10 = .int .i64 i ∧ x2 = .int .u64 m ∧ i ≤ 10 ∧ 0 ≤ m ∧ m < 128 ^ i ∧ (∀ x ∈ l1, 0 ≤ x ∧ x < 256) ∧ (f1 = 0 ∨ i = 0) ∧ Aside0 ((if f1 = 0 then rdNum (10 - i) i m l1 else (0, l1, f1)) = r) ∧ Aside0 (RdP g l1 f1 wr) ∧ Aside0 (Below B w0 wr) ∧ Aside0 (Far w wr (fun k => k = g))) (fun x10 _ _ => 10 - (intOf x10).toNat)
  case atStart => exact ⟨0, 0, l, f, rfl, rfl, by omega, by omega, by decide, hl, .inr rfl, Hr, HR, HB, ⟨Far.refl _ _⟩⟩
  case round =>
    clear Hr HR HB
    obtain ⟨i, m, l1, f1, rfl, rfl, hi, m0, m1, hl1, hf1, HE, HR, HB, HF⟩ := hrel
    by_cases hlt : i < 10
    · have hltb : decide ((i : Int) < 10) = true := decide_eq_true (by omega)
      go_wp2_with fail
      refine (take.calls B g l1 f1 1 w0 wr (by omega) (by omega) HB.out hg HR.out).mono ?_
      rintro e w1 ⟨hb1, hf1', ht⟩
      have HB1 := Aside0.mk hb1
      have HF1 := Aside0.mk (HF.out.trans hf1' (fun _ _ h => h))
      clear hb1 hf1' HB HF HR
      have ht1 : (1 : Int).toNat = 1 := rfl
      rw [ht1] at ht
      by_cases hz : f1 = 0 ∧ (1 : Int) ≤ l1.length
      · rw [if_pos hz] at ht
        obtain ⟨⟨A1, c1, rfl, hC, -⟩, hR1⟩ := ht
        obtain ⟨rfl, hlen⟩ := hz
        match l1, hlen, hl1, hC, hR1, HE with
        | c :: t, _, hl1, hC, hR1, HE =>
        have hcb := hl1 c (by simp)
        have hl2 : ∀ x ∈ t, 0 ≤ x ∧ x < 256 := fun x hx => hl1 x (List.mem_cons_of_mem _ hx)
        obtain ⟨ad, rfl, hcell⟩ := Kd.at_int hC 0 (by omega) (by simp)
        have hcell2 : w1.cell? ad = some (.int .u8 c) := by simpa [rd, Addr.add] using hcell
        clear hcell
        have HR1 := Aside0.mk (show RdP g t 0 w1 from hR1)
        have hand := andnot128 c hcb.1 hcb.2
        have hE1 := HE.out
        rw [if_pos rfl, show 10 - i = (10 - (i + 1)) + 1 from by omega, rdNum] at hE1
        clear hC hR1 hl1 HE
        by_cases cA : i = 9 ∧ 1 < c % 128
        · rw [if_pos cA] at hE1
          have hE := Aside0.mk hE1
          obtain ⟨rfl, cA2⟩ := cA
          clear hE1
          have b1 : decide (1 < c % 128) = true := decide_eq_true cA2
          go_wp2_with fail
          refine (bad.calls B g t 0 w0 w1 HB1.out hg HR1.out).mono ?_
          rintro e w2 ⟨rfl, hR2, hb2, hF2⟩
          have HR2 := Aside0.mk (show RdP g t 4 w2 by simpa using hR2)
          have HB2 := Aside0.mk hb2
          have HF2 := Aside0.mk (HF1.out.trans hF2 (fun _ _ h => h))
          clear hR2 hb2 hF2
          go_wp2
          (try rw [Exit.noGoto_ret])
          go_ret
          have hr := hE.out
          subst hr
          exact ⟨rfl, HR2.out, HB2.out, HF2.out⟩
        · rw [if_neg cA] at hE1
          by_cases cB : c < 128 ∧ c % 128 = 0 ∧ 0 < i
          · rw [if_pos cB] at hE1
            have hE := Aside0.mk hE1
            clear hE1
            obtain ⟨cB1, cB2, cB3⟩ := cB
            have b2 : decide (c < 128) = true := decide_eq_true cB1
            have b3 : (c % 128 == 0) = true := beq_iff_eq.mpr cB2
            have b4 : decide (0 < (i : Int)) = true := decide_eq_true (by omega)
            by_cases c9 : i = 9
            · have b5 : ((i : Int) == 9) = true := beq_iff_eq.mpr (by omega)
              have b6 : decide (1 < c % 128) = false := decide_eq_false (by omega)
              go_wp2_with fail
              refine (bad.calls B g t 0 w0 w1 HB1.out hg HR1.out).mono ?_
              rintro e w2 ⟨rfl, hR2, hb2, hF2⟩
              have HR2 := Aside0.mk (show RdP g t 4 w2 by simpa using hR2)
              have HB2 := Aside0.mk hb2
              have HF2 := Aside0.mk (HF1.out.trans hF2 (fun _ _ h => h))
              clear hR2 hb2 hF2
              go_wp2
              (try rw [Exit.noGoto_ret])
              go_ret
              have hr := hE.out
              subst hr
              exact ⟨rfl, HR2.out, HB2.out, HF2.out⟩
            · have b5 : ((i : Int) == 9) = false := beq_eq_false_iff_ne.mpr (by omega)
              go_wp2_with fail
              refine (bad.calls B g t 0 w0 w1 HB1.out hg HR1.out).mono ?_
              rintro e w2 ⟨rfl, hR2, hb2, hF2⟩
              have HR2 := Aside0.mk (show RdP g t 4 w2 by simpa using hR2)
              have HB2 := Aside0.mk hb2
              have HF2 := Aside0.mk (HF1.out.trans hF2 (fun _ _ h => h))
              clear hR2 hb2 hF2
              go_wp2
              (try rw [Exit.noGoto_ret])
              go_ret
              have hr := hE.out
              subst hr
              exact ⟨rfl, HR2.out, HB2.out, HF2.out⟩
          · rw [if_neg cB] at hE1
            by_cases cC : c < 128
            · rw [if_pos cC] at hE1
              have hE := Aside0.mk hE1
              clear hE1
              have b2 : decide (c < 128) = true := decide_eq_true cC
              have hG := Aside0.mk (or_grp i m (c % 128) hlt m0 m1 (by omega) (by omega) (by omega))
              by_cases c9 : i = 9
              · have b5 : ((i : Int) == 9) = true := beq_iff_eq.mpr (by omega)
                have b6 : decide (1 < c % 128) = false := decide_eq_false (by omega)
                have b7 : decide (0 < (i : Int)) = true := decide_eq_true (by omega)
                have b8 : (c % 128 == 0) = false := beq_eq_false_iff_ne.mpr (by omega)
                go_wp2
                all_goals (try rw [Exit.noGoto_ret])
                all_goals go_ret
                all_goals have hG1 := hG.out.1
                all_goals have hr := hE.out
                all_goals subst hr
                all_goals refine ⟨?_, HR1.out, HB1.out, HF1.out⟩
                all_goals first
                  | (show Ending.returned (.int .u64 (Go.bits .or .u64 m (IntKind.u64.wrap (c % 128 * 2 ^ (7 * i))))) = .returned (.int .u64 (m + c % 128 * 128 ^ i)); rw [hG1])
                  | (have hz : c % 128 = 0 := by assumption
                     rw [hz, Int.zero_mul, show IntKind.u64.wrap 0 = 0 from by rw [wrap_u64]; rfl] at hG1
                     show Ending.returned (.int .u64 (Go.bits .or .u64 m 0)) = .returned (.int .u64 (m + c % 128 * 128 ^ i))
                     rw [hz, hG1])
                  | (have h9 : IntKind.u64.wrap (c % 128 * 2 ^ (7 * 9)) = c % 128 * 9223372036854775808 := by rw [wrap_u64]; simp; omega
                     subst c9
                     rw [h9] at hG1
                     show Ending.returned (.int .u64 (Go.bits .or .u64 m (c % 128 * 9223372036854775808))) = .returned (.int .u64 (m + c % 128 * 128 ^ 9))
                     rw [hG1])
                  | trace_state
              · have b5 : ((i : Int) == 9) = false := beq_eq_false_iff_ne.mpr (by omega)
                go_wp2
                all_goals (try rw [Exit.noGoto_ret])
                all_goals go_ret
                all_goals have hG1 := hG.out.1
                all_goals have hr := hE.out
                all_goals subst hr
                all_goals refine ⟨?_, HR1.out, HB1.out, HF1.out⟩
                all_goals first
                  | (show Ending.returned (.int .u64 (Go.bits .or .u64 m (IntKind.u64.wrap (c % 128 * 2 ^ (7 * i))))) = .returned (.int .u64 (m + c % 128 * 128 ^ i)); rw [hG1])
                  | (have hz : c % 128 = 0 := by assumption
                     rw [hz, Int.zero_mul, show IntKind.u64.wrap 0 = 0 from by rw [wrap_u64]; rfl] at hG1
                     show Ending.returned (.int .u64 (Go.bits .or .u64 m 0)) = .returned (.int .u64 (m + c % 128 * 128 ^ i))
                     rw [hz, hG1])
                  | (have h9 : IntKind.u64.wrap (c % 128 * 2 ^ (7 * 9)) = c % 128 * 9223372036854775808 := by rw [wrap_u64]; simp; omega
                     subst c9
                     rw [h9] at hG1
                     show Ending.returned (.int .u64 (Go.bits .or .u64 m (c % 128 * 9223372036854775808))) = .returned (.int .u64 (m + c % 128 * 128 ^ 9))
                     rw [hG1])
                  | trace_state
            · rw [if_neg cC] at hE1
              have hE := Aside0.mk hE1
              clear hE1
              have b2 : decide (c < 128) = false := decide_eq_false cC
              have hG := Aside0.mk (or_grp i m (c % 128) hlt m0 m1 (by omega) (by omega) (by omega))
              have hG1 := hG.out.1
              have hG2 := hG.out.2
              by_cases c9 : i = 9
              · have b5 : ((i : Int) == 9) = true := beq_iff_eq.mpr (by omega)
                have b6 : decide (1 < c % 128) = false := decide_eq_false (by omega)
                have h9 : IntKind.u64.wrap (c % 128 * 2 ^ (7 * 9)) = c % 128 * 9223372036854775808 := by rw [wrap_u64]; simp; omega
                have hG3 : Go.bits .or .u64 m (c % 128 * 9223372036854775808) = m + c % 128 * 128 ^ i := by
                  rw [← hG1, c9, h9]
                clear h9
                go_wp2
                go_roundw
                case rel => exact ⟨i + 1, m + c % 128 * 128 ^ i, t, 0, by go_num, by rw [c9, show (128 : Int) ^ 9 = 9223372036854775808 from by decide], by omega, hG2.1, hG2.2, hl2, .inl rfl, ⟨by rw [if_pos rfl]; exact hE.out⟩, HR1, HB1, HF1⟩
                case measure => simp [intOf]; omega
              · have b5 : ((i : Int) == 9) = false := beq_eq_false_iff_ne.mpr (by omega)
                go_wp2
                go_roundw
                case rel => exact ⟨i + 1, m + c % 128 * 128 ^ i, t, 0, by go_num, rfl, by omega, hG2.1, hG2.2, hl2, .inl rfl, ⟨by rw [if_pos rfl]; exact hE.out⟩, HR1, HB1, HF1⟩
                case measure => simp [intOf]; omega
      · rw [if_neg hz] at ht
        obtain ⟨rfl, hR1⟩ := ht
        have HR1 := Aside0.mk hR1
        clear hR1
        go_wp2
        (try rw [Exit.noGoto_ret])
        go_ret
        have hr := HE.out
        have hr2 : r = (0, l1, if f1 = 0 then 3 else f1) := by
          rw [← hr]
          by_cases hf : f1 = 0
          · have hn : l1 = [] := by
              rcases l1 with _ | ⟨x, y⟩
              · rfl
              · exact absurd ⟨hf, by simp; omega⟩ hz
            subst hn
            rw [if_pos hf, if_pos hf, show 10 - i = (10 - (i + 1)) + 1 from by omega, rdNum]
          · rw [if_neg hf, if_neg hf]
        subst hr2
        exact ⟨rfl, HR1.out, HB1.out, HF1.out⟩
    · obtain rfl : i = 10 := by omega
      have hltb : decide (((10 : Nat) : Int) < 10) = false := by decide
      have hf0 : f1 = 0 := by omega
      subst hf0
      go_wp2_with fail
      refine (bad.calls B g l1 0 w0 wr HB.out hg HR.out).mono ?_
      rintro e w2 ⟨rfl, hR2, hb2, hF2⟩
      have HR2 := Aside0.mk (show RdP g l1 4 w2 by simpa using hR2)
      have HB2 := Aside0.mk hb2
      have HF2 := Aside0.mk (HF.out.trans hF2 (fun _ _ h => h))
      clear hR2 hb2 hF2
      go_wp2
      (try rw [Exit.noGoto_ret])
      go_ret
      have hr := HE.out
      simp only [if_true, Nat.sub_self, rdNum] at hr
      subst hr
      exact ⟨rfl, HR2.out, HB2.out, HF2.out⟩
end Wr
end Go.Proofs.Ytjegkfdcelodeaa.P
