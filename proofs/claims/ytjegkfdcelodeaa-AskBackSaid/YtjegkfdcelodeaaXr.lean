import Derived.Test.YtjegkfdcelodeaaPx3
import Derived.Test.YtjegkfdcelodeaaPx4
import Derived.Test.YtjegkfdcelodeaaPr
namespace Go.Proofs.Ytjegkfdcelodeaa.P
open Go.RowKit Go.Proofs.YtjegkfdcelodeaaW.PrintWords Go.Proofs.YtjegkfdcelodeaaW.PrintLast Go.Proofs.YtjegkfdcelodeaaW.PrintMore
attribute [local go_sem] max2_int min2_int max_two min_two max_three min_three max_four min_four
set_option linter.unusedVariables false
set_option linter.unusedSimpArgs false
namespace Wr
/-- A reader at g: the bytes that are left, and the fault. -/
structure XdS (g : Nat) (A : Option Addr) (c : Nat) (l : List Int) (f : Int) (W : World) : Prop where
  blk : W.heap[g]? = some (.cells #[.slice A l.length c, .int .i64 f] 69 (0, 0))
  cap : l.length ≤ c
  row : Kd.C (Kd.int .u8) W A l.length l
  under : ∀ ad, A = some ad → 0 < l.length → ad.block < g
theorem XdS.away {g : Nat} {A : Option Addr} {c : Nat} {l : List Int} {f : Int} {W : World} (h : XdS g A c l f W) : ∀ ad, A = some ad → 0 < l.length → ad.block ≠ g := fun ad e hp => Nat.ne_of_lt (h.under ad e hp)
def XdP (g : Nat) (l : List Int) (f : Int) (W : World) : Prop := ∃ A c, XdS g A c l f W
theorem XdS.c0 {g : Nat} {A : Option Addr} {c : Nat} {l : List Int} {f : Int} {W : World} (h : XdS g A c l f W) : W.cell? ⟨g, 0, none⟩ = some (.slice A l.length c) := blk_cell h.blk 0
theorem XdS.c1 {g : Nat} {A : Option Addr} {c : Nat} {l : List Int} {f : Int} {W : World} (h : XdS g A c l f W) : W.cell? ⟨g, 1, none⟩ = some (.int .i64 f) := blk_cell h.blk 1
theorem XdS.f0 {g : Nat} {A : Option Addr} {c : Nat} {l : List Int} {f : Int} {W : World} (h : XdS g A c l f W) : W.frozen? ⟨g, 0, none⟩ = false := blk_frozen h.blk 0
theorem XdS.f1 {g : Nat} {A : Option Addr} {c : Nat} {l : List Int} {f : Int} {W : World} (h : XdS g A c l f W) : W.frozen? ⟨g, 1, none⟩ = false := blk_frozen h.blk 1
/-- The fault turned. -/
theorem XdS.setF {g : Nat} {A : Option Addr} {c : Nat} {l : List Int} {f : Int} {W : World} (h : XdS g A c l f W) (f2 : Int) : XdS g A c l f2 (W.setCell ⟨g, 1, none⟩ (.int .i64 f2)) :=
  ⟨blk_put h.blk 1 _ rfl, h.cap, C_set h.row h.away 1 _, h.under⟩
/-- The bytes cut. -/
theorem XdS.cut {g : Nat} {A : Option Addr} {c : Nat} {l : List Int} {f : Int} {W : World} (h : XdS g A c l f W) (m : Nat) (hm : m ≤ l.length) :
    XdS g (if c = m then A else A.map (·.add (m * 1))) (c - m) (l.drop m) f (W.setCell ⟨g, 0, none⟩ (.slice (if c = m then A else A.map (·.add (m * 1))) (l.length - m) (c - m))) := by
  have ha : ∀ ad, (if c = m then A else A.map (·.add (m * 1))) = some ad → 0 < (l.drop m).length → ad.block < g := by
    intro ad e hp
    rw [List.length_drop] at hp
    split at e
    · exact h.under ad e (by omega)
    · obtain ⟨b, hb, rfl⟩ := Option.map_eq_some_iff.mp e
      have := h.under b hb (by omega)
      unfold Addr.add; split <;> simpa using this
  refine ⟨?_, by rw [List.length_drop]; have := h.cap; omega, ?_, ha⟩
  · rw [List.length_drop]; exact blk_put h.blk 0 _ rfl
  · exact C_set (Kd.C_drop h.row hm h.cap) (fun ad e hp => Nat.ne_of_lt (ha ad e hp)) 0 _
set_option maxHeartbeats 8000000 in
set_option maxRecDepth 100000 in
theorem Xbad.calls (B g : Nat) (l : List Int) (f : Int) (w0 w : World) (hB : Below B w0 w) (hg : B ≤ g) (hR : XdP g l f w) :
    Calls Try.prog 82 #[.pointer (some ⟨g, 0, none⟩)] w fun e w' => e = .returned (.tuple #[]) ∧ XdP g l (if f = 0 then 4 else f) w' ∧ Below B w0 w' ∧ Far w w' (fun k => k = g) := by
  obtain ⟨A, c, hR⟩ := hR
  have hc0 := hR.c0
  have hc1 := hR.c1
  have hf0 := hR.f0
  have hf1 := hR.f1
  have HR := Aside0.mk hR
  have HB := Aside0.mk hB
  clear hR hB
  by_cases cf : f = 0
  · subst cf
    go_enter Try.func82, Try.ntmps82
    go_wp2
    go_end0
    exact ⟨rfl, ⟨_, _, HR.out.setF 4⟩, HB.out.setCell hg _, (Far.refl w (fun k => k = g)).setCell (p := ⟨g, 1, none⟩) (.inr rfl) _⟩
  · have cfb : (f == 0) = false := beq_eq_false_iff_ne.mpr cf
    go_enter Try.func82, Try.ntmps82
    go_wp2
    go_end0
    exact ⟨rfl, ⟨_, _, HR.out⟩, HB.out, Far.refl w _⟩
def onePost (B g : Nat) (l : List Int) (f : Int) (w0 w : World) (e : Ending) (w' : World) : Prop :=
  Below B w0 w' ∧ Far w w' (fun k => k = g) ∧ (if f = 0 then (match l with | [] => e = .returned (.int .i64 0) ∧ XdP g [] 3 w' | c :: t => e = .returned (.int .i64 c) ∧ XdP g t 0 w') else e = .returned (.int .i64 0) ∧ XdP g l f w')
set_option maxHeartbeats 8000000 in
set_option maxRecDepth 100000 in
theorem Xone.calls (B g : Nat) (l : List Int) (f : Int) (w0 w : World) (hl : ∀ x ∈ l, 0 ≤ x ∧ x < 256) (hB : Below B w0 w) (hg : B ≤ g) (hR : XdP g l f w) :
    Calls Try.prog 81 #[.pointer (some ⟨g, 0, none⟩)] w (onePost B g l f w0 w) := by
  obtain ⟨A, c, hR⟩ := hR
  have hc0 := hR.c0
  have hc1 := hR.c1
  have hf0 := hR.f0
  have hf1 := hR.f1
  have HR := Aside0.mk hR
  have HB := Aside0.mk hB
  clear hR hB
  by_cases cf : f = 0
  · subst cf
    cases l with
    | nil =>
      go_enter Try.func81, Try.ntmps81
      go_wp2
      go_ret
      refine ⟨HB.out.setCell hg _, (Far.refl w (fun k => k = g)).setCell (p := ⟨g, 1, none⟩) (.inr rfl) _, ?_⟩
      rw [if_pos rfl]
      exact ⟨rfl, _, _, HR.out.setF 3⟩
    | cons x t =>
      have hx := hl x (by simp)
      obtain ⟨i5, hi5, hs5⟩ := info5i
      obtain ⟨A2, hA2⟩ : ∃ A2, A2 = (if c = 1 then A else A.map (·.add (1 * 1))) := ⟨_, rfl⟩
      have hcut2 : ∀ W : World, (Instr.slice 32 (.slice A (t.length + 1) c) (some (.int .i64 1)) none none).run Try.prog W = .ok (.slice A2 t.length (c - 1)) W := by
        rw [hA2]
        exact cut_from (P := Try.prog) 32 5 .i64 Try.underlying32 hi5 1 hs5 A (t.length + 1) c 1 (by omega) (by omega)
      have hd := HR.out.cut 1 (by simp)
      rw [← hA2] at hd
      have HD := Aside0.mk (show XdS g A2 (c - 1) t 0 (w.setCell ⟨g, 0, none⟩ (.slice A2 t.length (c - 1))) from hd)
      obtain ⟨ad, rfl, hcell⟩ := Kd.at_int HR.out.row 0 (by omega) (by simp)
      have hcell2 : w.cell? ad = some (.int .u8 x) := by simpa [rd, Addr.add] using hcell
      have hlb : (((t.length : Int) + 1) == 0) = false := beq_eq_false_iff_ne.mpr (by omega)
      have hc0' : w.cell? ⟨g, 0, none⟩ = some (.slice (some ad) (t.length + 1) c) := hc0
      clear hc0 hd hA2 hcell hi5 hs5
      go_enter Try.func81, Try.ntmps81
      go_wp2
      go_ret
      refine ⟨HB.out.setCell hg _, (Far.refl w (fun k => k = g)).setCell (p := ⟨g, 0, none⟩) (.inr rfl) _, ?_⟩
      rw [if_pos rfl]
      exact ⟨rfl, _, _, HD.out⟩
  · have cfb : (f != 0) = true := bne_iff_ne.mpr cf
    go_enter Try.func81, Try.ntmps81
    go_wp2
    go_ret
    refine ⟨HB.out, Far.refl w _, ?_⟩
    rw [if_neg cf]
    exact ⟨rfl, _, _, HR.out⟩
def XdR (B g : Nat) (r : Int × List Int × Int) (w0 w : World) (e : Ending) (w' : World) : Prop := e = .returned (.int .u64 r.1) ∧ XdP g r.2.1 r.2.2 w' ∧ Below B w0 w' ∧ Far w w' (fun k => k = g)
theorem pow_lt9 (i : Nat) (hi : i < 10) : (0 : Int) < 128 ^ i ∧ (128 : Int) ^ i ≤ 9223372036854775808 := by
  have : i = 0 ∨ i = 1 ∨ i = 2 ∨ i = 3 ∨ i = 4 ∨ i = 5 ∨ i = 6 ∨ i = 7 ∨ i = 8 ∨ i = 9 := by omega
  rcases this with h | h | h | h | h | h | h | h | h | h <;> subst h <;> decide
theorem add_grp (i : Nat) (m d : Int) (hi : i < 10) (m0 : 0 ≤ m) (m1 : m < 128 ^ i) (d0 : 0 ≤ d) (d1 : d < 128) (d9 : i = 9 → d ≤ 1) : IntKind.u64.wrap (m + IntKind.u64.wrap (d * 128 ^ i)) = m + d * 128 ^ i := by
  have h := or_grp i m d hi m0 m1 d0 d1 d9
  have h8 : m + d * 128 ^ i < 18446744073709551616 := by
    by_cases e : i = 9
    · subst e
      have := d9 rfl
      have e : (128 : Int) ^ 9 = 9223372036854775808 := by decide
      rw [e] at m1 ⊢; omega
    · have := (pow_lt9 (i + 1) (by omega)).2
      omega
  have hd0 : 0 ≤ d * 128 ^ i := Int.mul_nonneg d0 (by have := (pow_lt9 i hi).1; omega)
  rw [wrap_u64, wrap_u64]
  generalize d * 128 ^ i = y at *
  omega
set_option maxHeartbeats 8000000 in
set_option maxRecDepth 100000 in
theorem X_Num.calls (B g : Nat) (l : List Int) (f : Int) (w0 w : World) (hl : ∀ x ∈ l, 0 ≤ x ∧ x < 256) (hB : Below B w0 w) (hg : B ≤ g) (hR : XdP g l f w) :
    Calls Try.prog 71 #[.pointer (some ⟨g, 0, none⟩)] w (XdR B g (if f = 0 then rdNum 10 0 0 l else (0, l, f)) w0 w) := by
  have HR := Aside0.mk hR
  have HB := Aside0.mk hB
  clear hR hB
  generalize hr : (if f = 0 then rdNum 10 0 0 l else (0, l, f)) = r
  have Hr := Aside0.mk hr
  clear hr
  go_enter Try.func71, Try.ntmps71
  go_wp2
  go_loopw [5, 3, 4] (fun x5 x3 x4 wr => ∃ (i : Nat) (m y : Int) (l1 : List Int) (f1 : Int), x5 = .int .i64 i ∧ x3 = .int .u64 m ∧ x4 = .int .u64 y ∧ i ≤ 10 ∧ 0 ≤ m ∧ m < 128 ^ i ∧ (i < 10 → y = 128 ^ i) ∧ (∀ x ∈ l1, 0 ≤ x ∧ x < 256) ∧ (f1 = 0 ∨ i = 0) ∧ Aside0 ((if f1 = 0 then rdNum (10 - i) i m l1 else (0, l1, f1)) = r) ∧ Aside0 (XdP g l1 f1 wr) ∧ Aside0 (Below B w0 wr) ∧ Aside0 (Far w wr (fun k => k = g))) (fun x5 _ _ _ => 10 - (intOf x5).toNat)
  case atStart => exact ⟨0, 0, 1, l, f, rfl, rfl, rfl, by omega, by omega, by decide, fun _ => rfl, hl, .inr rfl, Hr, HR, HB, ⟨Far.refl _ _⟩⟩
  case round =>
    clear Hr HR HB
    obtain ⟨i, m, y, l1, f1, rfl, rfl, rfl, hi, m0, m1, hy, hl1, hf1, HE, HR, HB, HF⟩ := hrel
    by_cases hlt : i < 10
    · have hltb : decide ((i : Int) < 10) = true := decide_eq_true (by omega)
      have hy1 := hy hlt
      clear hy
      go_wp2_with fail
      refine (Xone.calls B g l1 f1 w0 wr hl1 HB.out hg HR.out).mono ?_
      rintro e w1 ⟨hb1, hf1', ht⟩
      have HB1 := Aside0.mk hb1
      have HF1 := Aside0.mk (HF.out.trans hf1' (fun _ _ h => h))
      clear hb1 hf1' HB HF HR
      by_cases hz : f1 = 0
      · subst hz
        rw [if_pos rfl] at ht
        match l1, hl1, ht, HE with
        | [], hl1, ht, HE =>
          obtain ⟨rfl, hR1⟩ := ht
          obtain ⟨A, c, hR1⟩ := hR1
          have hc1 := hR1.c1
          have hff := hR1.f1
          have HR1 := Aside0.mk hR1
          clear hR1
          go_wp2
          go_ret
          have hr := HE.out
          simp only [if_true, show 10 - i = (10 - (i + 1)) + 1 from by omega, rdNum] at hr
          subst hr
          exact ⟨rfl, ⟨_, _, HR1.out⟩, HB1.out, HF1.out⟩
        | c :: t, hl1, ht, HE =>
          obtain ⟨rfl, hR1⟩ := ht
          have hcb := hl1 c (by simp)
          have hl2 : ∀ x ∈ t, 0 ≤ x ∧ x < 256 := fun x hx => hl1 x (List.mem_cons_of_mem _ hx)
          have HR1 := Aside0.mk hR1
          obtain ⟨A, cc, hR1⟩ := hR1
          have hc1 := hR1.c1
          have hff := hR1.f1
          have hE1 := HE.out
          rw [if_pos rfl, show 10 - i = (10 - (i + 1)) + 1 from by omega, rdNum] at hE1
          clear hR1 hl1 HE
          have hT : Int.tmod c 128 = c % 128 := Int.tmod_eq_emod_of_nonneg hcb.1
          have hW : IntKind.u64.wrap (c % 128) = c % 128 := by rw [wrap_u64]; omega
          by_cases cA : i = 9 ∧ 1 < c % 128
          · rw [if_pos cA] at hE1
            have hE := Aside0.mk hE1
            obtain ⟨rfl, cA2⟩ := cA
            clear hE1
            have b1 : decide (1 < c % 128) = true := decide_eq_true cA2
            go_wp2_with fail
            refine (Xbad.calls B g t 0 w0 w1 HB1.out hg HR1.out).mono ?_
            rintro e w2 ⟨rfl, hR2, hb2, hF2⟩
            have HR2 := Aside0.mk (show XdP g t 4 w2 by simpa using hR2)
            have HB2 := Aside0.mk hb2
            have HF2 := Aside0.mk (HF1.out.trans hF2 (fun _ _ h => h))
            clear hR2 hb2 hF2
            go_wp2
            go_ret
            have hr := hE.out
            subst hr
            exact ⟨rfl, HR2.out, HB2.out, HF2.out⟩
          · rw [if_neg cA] at hE1
            have hG := Aside0.mk (or_grp i m (c % 128) hlt m0 m1 (by omega) (by omega) (by omega))
            have hG0 := add_grp i m (c % 128) hlt m0 m1 (by omega) (by omega) (by omega)
            have hG00 : IntKind.u64.wrap (m + IntKind.u64.wrap 0) = m := by
              have := (pow_lt9 i hlt).2
              rw [wrap_u64, wrap_u64]; omega
            have nine : ((i : Int) == 9) = true ∧ decide (1 < c % 128) = false ∨ ((i : Int) == 9) = false := by
              by_cases c9 : i = 9
              · exact .inl ⟨beq_iff_eq.mpr (by omega), decide_eq_false (by omega)⟩
              · exact .inr (beq_eq_false_iff_ne.mpr (by omega))
            by_cases cB : c < 128 ∧ c % 128 = 0 ∧ 0 < i
            · rw [if_pos cB] at hE1
              have hE := Aside0.mk hE1
              clear hE1
              obtain ⟨cB1, cB2, cB3⟩ := cB
              have b2 : decide (c < 128) = true := decide_eq_true cB1
              have b3 : (c % 128 == 0) = true := beq_iff_eq.mpr cB2
              have b4 : decide (0 < (i : Int)) = true := decide_eq_true (by omega)
              rcases nine with ⟨b5, b6⟩ | b5
              all_goals
                (
                 go_wp2_with fail
                 refine (Xbad.calls B g t 0 w0 w1 HB1.out hg HR1.out).mono ?_
                 rintro e w2 ⟨rfl, hR2, hb2, hF2⟩
                 have HR2 := Aside0.mk (show XdP g t 4 w2 by simpa using hR2)
                 have HB2 := Aside0.mk hb2
                 have HF2 := Aside0.mk (HF1.out.trans hF2 (fun _ _ h => h))
                 clear hR2 hb2 hF2
                 go_wp2
                 go_ret
                 have hr := hE.out
                 subst hr
                 exact ⟨rfl, HR2.out, HB2.out, HF2.out⟩)
            · rw [if_neg cB] at hE1
              by_cases cC : c < 128
              · rw [if_pos cC] at hE1
                have hE := Aside0.mk hE1
                clear hE1
                have b2 : decide (c < 128) = true := decide_eq_true cC
                rcases nine with ⟨b5, b6⟩ | b5
                all_goals
                  (go_wp2
                   all_goals go_ret
                   all_goals have hr := hE.out
                   all_goals subst hr
                   all_goals refine ⟨?_, HR1.out, HB1.out, HF1.out⟩
                   all_goals first
                     | rfl
                     | (have hz0 : c % 128 = 0 := by assumption
                        show Ending.returned (.int .u64 m) = .returned (.int .u64 (m + c % 128 * 128 ^ i))
                        rw [hz0, Int.zero_mul, Int.add_zero])
                     | trace_state)
              · rw [if_neg cC] at hE1
                have hE := Aside0.mk hE1
                clear hE1
                have b2 : decide (c < 128) = false := decide_eq_false cC
                rcases nine with ⟨b5, b6⟩ | b5
                all_goals
                  (go_wp2
                   go_roundw
                   case rel => exact ⟨i + 1, m + c % 128 * 128 ^ i, _, t, 0, by go_num, by first | rfl | rw [hG0], rfl, by omega, hG.out.2.1, hG.out.2.2, fun h9 => by have p := pow_lt9 (i + 1) h9; rw [Int.pow_succ] at p ⊢; rw [wrap_u64]; omega, hl2, .inl rfl, ⟨by rw [if_pos rfl]; exact hE.out⟩, HR1, HB1, HF1⟩
                   case measure => simp [intOf]; omega)
      · rw [if_neg hz] at ht
        obtain ⟨rfl, hR1⟩ := ht
        have hzb : (f1 != 0) = true := bne_iff_ne.mpr hz
        obtain ⟨A, c, hR1⟩ := hR1
        have hc1 := hR1.c1
        have hff := hR1.f1
        have HR1 := Aside0.mk hR1
        clear hR1
        go_wp2
        go_ret
        have hr := HE.out
        rw [if_neg hz] at hr
        subst hr
        exact ⟨rfl, ⟨_, _, HR1.out⟩, HB1.out, HF1.out⟩
    · obtain rfl : i = 10 := by omega
      have hltb : decide (((10 : Nat) : Int) < 10) = false := by decide
      have hf0 : f1 = 0 := by omega
      subst hf0
      go_wp2_with fail
      refine (Xbad.calls B g l1 0 w0 wr HB.out hg HR.out).mono ?_
      rintro e w2 ⟨rfl, hR2, hb2, hF2⟩
      have HR2 := Aside0.mk (show XdP g l1 4 w2 by simpa using hR2)
      have HB2 := Aside0.mk hb2
      have HF2 := Aside0.mk (HF.out.trans hF2 (fun _ _ h => h))
      clear hR2 hb2 hF2
      go_wp2
      go_ret
      have hr := HE.out
      simp only [if_true, Nat.sub_self, rdNum] at hr
      subst hr
      exact ⟨rfl, HR2.out, HB2.out, HF2.out⟩
end Wr
end Go.Proofs.Ytjegkfdcelodeaa.P

namespace Go.Proofs.Ytjegkfdcelodeaa.P
open Go.RowKit Go.Proofs.YtjegkfdcelodeaaW.PrintWords Go.Proofs.YtjegkfdcelodeaaW.PrintLast Go.Proofs.YtjegkfdcelodeaaW.PrintMore
attribute [local go_sem] max2_int min2_int max_two min_two max_three min_three max_four min_four
set_option linter.unusedVariables false
set_option linter.unusedSimpArgs false
namespace Wr
theorem XdP.below {g : Nat} {l : List Int} {f : Int} {w w' : World} (h : XdP g l f w) (hb : Below w.heap.size w w') : XdP g l f w' := by
  obtain ⟨A, c, h⟩ := h
  exact ⟨A, c, blk_below h.blk hb, h.cap, Kd.C_below h.row hb, h.under⟩
/-- A cell beyond the reader turned. -/
theorem XdP.set {g : Nat} {l : List Int} {f : Int} {W : World} (h : XdP g l f W) (p : Nat) (hp : g < p) (j : Nat) (u : Value) : XdP g l f (W.setCell ⟨p, j, none⟩ u) := by
  obtain ⟨A, c, h⟩ := h
  refine ⟨A, c, ?_, h.cap, C_set h.row (fun ad e hl => by have := h.under ad e hl; omega) j u, h.under⟩
  rw [Below.heap_setCell W ⟨p, j, none⟩ u g (by simp; omega)]
  exact h.blk
structure T9 (p g B : Nat) (w00 w0 : World) (l : List Int) (f : Int) (cs : Array Value) (w : World) : Prop where
  heap : w.heap[p]? = some (.cells cs 23 (0, 0))
  rd : XdP g l f w
  below : Below B w0 w
  far : Far w00 w (fun k => k = g)
theorem T9.step {p g B : Nat} {w00 w0 w : World} {l : List Int} {f : Int} {cs cs' : Array Value} (h : T9 p g B w00 w0 l f cs w) (hp : g < p) (hB : B ≤ p) (hw : w00.heap.size ≤ p) (i : Nat) (u : Value) (e : cs.setIfInBounds i u = cs') : T9 p g B w00 w0 l f cs' (w.setCell ⟨p, i, none⟩ u) :=
  ⟨blk_put h.heap i u e, h.rd.set p hp i u, h.below.setCell hB u, h.far.setCell (.inl hw) u⟩
theorem finX {p g B : Nat} {a0 a1 a2 a3 a4 a5 a6 a7 a8 : Int} (x0 x1 x2 x3 x4 x5 x6 x7 x8 : Int) {l : List Int} {f : Int} {w00 w0 w : World} (hk : w.heap[p]? = some (.cells (polA a0 a1 a2 a3 a4 a5 a6 a7 a8) 23 (0, 0))) (hr : XdP g l f w) (hp : g < p) (hb : Below B w0 w) (hB : B ≤ p) (hf : Far w00 w (fun k => k = g)) (hw : w00.heap.size ≤ p) :
    T9 p g B w00 w0 l f (polA x0 x1 x2 x3 x4 x5 x6 x7 x8) ((((((((((((((((((w.setCell ⟨p, 0, none⟩ (.int .i64 x0))).setCell ⟨p, 1, none⟩ (.int .i64 x1))).setCell ⟨p, 2, none⟩ (.int .i64 x2))).setCell ⟨p, 3, none⟩ (.int .i64 x3))).setCell ⟨p, 4, none⟩ (.int .i64 x4))).setCell ⟨p, 5, none⟩ (.int .i64 x5))).setCell ⟨p, 6, none⟩ (.int .i64 x6))).setCell ⟨p, 7, none⟩ (.int .i64 x7))).setCell ⟨p, 8, none⟩ (.int .i64 x8))) := by
  have s0 : T9 p g B w00 w0 l f (polA a0 a1 a2 a3 a4 a5 a6 a7 a8) w := ⟨hk, hr, hb, hf⟩
  have s1 := s0.step hp hB hw 0 (.int .i64 x0) (cs' := polA x0 a1 a2 a3 a4 a5 a6 a7 a8) rfl
  have s2 := s1.step hp hB hw 1 (.int .i64 x1) (cs' := polA x0 x1 a2 a3 a4 a5 a6 a7 a8) rfl
  have s3 := s2.step hp hB hw 2 (.int .i64 x2) (cs' := polA x0 x1 x2 a3 a4 a5 a6 a7 a8) rfl
  have s4 := s3.step hp hB hw 3 (.int .i64 x3) (cs' := polA x0 x1 x2 x3 a4 a5 a6 a7 a8) rfl
  have s5 := s4.step hp hB hw 4 (.int .i64 x4) (cs' := polA x0 x1 x2 x3 x4 a5 a6 a7 a8) rfl
  have s6 := s5.step hp hB hw 5 (.int .i64 x5) (cs' := polA x0 x1 x2 x3 x4 x5 a6 a7 a8) rfl
  have s7 := s6.step hp hB hw 6 (.int .i64 x6) (cs' := polA x0 x1 x2 x3 x4 x5 x6 a7 a8) rfl
  have s8 := s7.step hp hB hw 7 (.int .i64 x7) (cs' := polA x0 x1 x2 x3 x4 x5 x6 x7 a8) rfl
  have s9 := s8.step hp hB hw 8 (.int .i64 x8) (cs' := polA x0 x1 x2 x3 x4 x5 x6 x7 x8) rfl
  exact s9
def cnS (s : List Int × Int) (i j : Nat) : Int := if j < i then vaS s j else 0
def cellsN (s : List Int × Int) (i : Nat) : Array Value := #[.int .u64 (cnS s i 0), .int .u64 (cnS s i 1), .int .u64 (cnS s i 2), .int .u64 (cnS s i 3), .int .u64 (cnS s i 4), .int .u64 (cnS s i 5), .int .u64 (cnS s i 6), .int .u64 (cnS s i 7), .int .u64 (cnS s i 8)]
theorem cellsN_step (s : List Int × Int) (i : Nat) (hi : i < 9) : (cellsN s i).setIfInBounds i (.int .u64 (vaS s i)) = cellsN s (i + 1) := by
  match i, hi with
  | 0, _ => simp [cellsN, cnS]
  | 1, _ => simp [cellsN, cnS]
  | 2, _ => simp [cellsN, cnS]
  | 3, _ => simp [cellsN, cnS]
  | 4, _ => simp [cellsN, cnS]
  | 5, _ => simp [cellsN, cnS]
  | 6, _ => simp [cellsN, cnS]
  | 7, _ => simp [cellsN, cnS]
  | 8, _ => simp [cellsN, cnS]
theorem cellN_at (s : List Int × Int) (i : Nat) (hi : i < 9) : (cellsN s i)[i]? = some (.int .u64 0) := by
  match i, hi with
  | 0, _ => simp [cellsN, cnS]
  | 1, _ => simp [cellsN, cnS]
  | 2, _ => simp [cellsN, cnS]
  | 3, _ => simp [cellsN, cnS]
  | 4, _ => simp [cellsN, cnS]
  | 5, _ => simp [cellsN, cnS]
  | 6, _ => simp [cellsN, cnS]
  | 7, _ => simp [cellsN, cnS]
  | 8, _ => simp [cellsN, cnS]
set_option maxHeartbeats 8000000 in
set_option maxRecDepth 100000 in
theorem ref_Read.calls (B g k : Nat) (s : List Int × Int) (w0 w : World) (hl : ∀ x ∈ s.1, 0 ≤ x ∧ x < 256) (hB : Below B w0 w) (hg : B ≤ g) (hR : XdP g s.1 s.2 w) (hchk : ossuaryref18_Check.f k (cvS s 9 0) (cvS s 9 1) (cvS s 9 2) (cvS s 9 3) (cvS s 9 4) (cvS s 9 5) (cvS s 9 6) (cvS s 9 7) (cvS s 9 8) = some (polC s)) :
    Calls Try.prog 46 #[.pointer (some ⟨g, 0, none⟩)] w fun e w' => e = .returned (.tuple #[.agg (resP s).1, .int .i64 (resP s).2]) ∧ XdP g (stS s 9).1 (stS s 9).2 w' ∧ Below B w0 w' ∧ Far w w' (fun k => k = g) := by
  have hgw : g < w.heap.size := by obtain ⟨A, c, h⟩ := hR; exact blk_lt h.blk
  have HR := Aside0.mk hR
  have HB := Aside0.mk hB
  have HK := Aside0.mk hchk
  clear hR hB hchk
  go_enter Try.func46, Try.ntmps46
  go_wp2
  go_loopw [6, 5] (fun x6 x5 wr => ∃ (i : Nat), x6 = .int .i64 i ∧ x5 = .bool (wrS s i) ∧ i ≤ 9 ∧ Aside0 (XdP g (stS s i).1 (stS s i).2 wr) ∧ Aside0 (wr.heap[w.heap.size]? = some (.cells (polA 0 0 0 0 0 0 0 0 0) 23 (0, 0))) ∧ Aside0 (wr.heap[w.heap.size + 1]? = some (.cells (cellsN s i) 109 (0, 0))) ∧ Aside0 (Below B w0 wr) ∧ Aside0 (Far w wr (fun k => k = g))) (fun x6 _ _ => 9 - (intOf x6).toNat)
  case atStart =>
    refine ⟨0, rfl, rfl, by omega, ⟨?_⟩, ⟨?_⟩, ⟨?_⟩, ⟨?_⟩, ⟨?_⟩⟩
    · exact (HR.out.below ((Below.refl _ w).alloc (Nat.le_refl _) _)).below ((Below.refl _ _).alloc (Nat.le_refl _) _)
    · exact blk_alloc (blk_new w _) _
    · exact blk_at _ _ _ (by simp)
    · exact (HB.out.alloc (by omega) _).alloc (by simp; omega) _
    · exact ((Far.refl w _).alloc _).alloc _
  case round =>
    clear HR HB
    obtain ⟨i, rfl, rfl, hi, HR, HP, HQ, HB, HF⟩ := hrel
    by_cases hlt : i < 9
    · have hltb : decide ((i : Int) < 9) = true := decide_eq_true (by omega)
      have hltp : (i : Int) < 9 := by omega
      have hnn : (0 : Int) ≤ (i : Int) := by omega
      cases hw : wrS s i
      all_goals
        (go_wp2_with fail
         refine (X_Num.calls B g (stS s i).1 (stS s i).2 w0 wr (fun x hx => hl x (stS_sub s i x hx)) HB.out hg HR.out).mono ?_
         rintro e w1 ⟨rfl, hr1, hb1, hf1⟩
         have HR1 := Aside0.mk (show XdP g (stS s (i + 1)).1 (stS s (i + 1)).2 w1 from hr1)
         have HB1 := Aside0.mk hb1
         have HF1 := Aside0.mk (HF.out.trans hf1 (fun _ _ h => h))
         have hp1 := hf1.blk HP.out (by omega)
         have hq1 := hf1.blk HQ.out (by omega)
         have hv : (if (stS s i).2 = 0 then rdNum 10 0 0 (stS s i).1 else (0, (stS s i).1, (stS s i).2)).1 = vaS s i := rfl
         rw [hv]
         clear hr1 hb1 hf1 HR HB HF HP HQ hv
         have hcq := (blk_cell hq1 i).trans (cellN_at s i hlt)
         have hfq := blk_frozen hq1 i
         have HP1 := Aside0.mk hp1
         have HQ1 := Aside0.mk hq1
         clear hp1 hq1
         go_wp2
         go_roundw
         case rel => exact ⟨i + 1, by go_num, by simp [wrS, hw], by omega, ⟨HR1.out.set _ (by omega) i _⟩, ⟨(Below.heap_setCell _ _ _ _ (by simp)).trans HP1.out⟩, ⟨blk_put HQ1.out i _ (cellsN_step s i hlt)⟩, ⟨HB1.out.setCell (by simp; omega) _⟩, ⟨HF1.out.setCell (.inl (by simp)) _⟩⟩
         case measure => simp [intOf]; omega)
    · obtain rfl : i = 9 := by omega
      have hltb : decide (((9 : Nat) : Int) < 9) = false := by decide
      obtain ⟨A, c, hRx⟩ := HR.out
      have hc1 := hRx.c1
      have hff := hRx.f1
      clear hRx hlt hi
      have z0 : wr.cell? ⟨w.heap.size, 0, none⟩ = some (.int .i64 0) := blk_cell HP.out 0
      have y0 := blk_frozen HP.out 0
      have z1 : wr.cell? ⟨w.heap.size, 1, none⟩ = some (.int .i64 0) := blk_cell HP.out 1
      have y1 := blk_frozen HP.out 1
      have z2 : wr.cell? ⟨w.heap.size, 2, none⟩ = some (.int .i64 0) := blk_cell HP.out 2
      have y2 := blk_frozen HP.out 2
      have z3 : wr.cell? ⟨w.heap.size, 3, none⟩ = some (.int .i64 0) := blk_cell HP.out 3
      have y3 := blk_frozen HP.out 3
      have z4 : wr.cell? ⟨w.heap.size, 4, none⟩ = some (.int .i64 0) := blk_cell HP.out 4
      have y4 := blk_frozen HP.out 4
      have z5 : wr.cell? ⟨w.heap.size, 5, none⟩ = some (.int .i64 0) := blk_cell HP.out 5
      have y5 := blk_frozen HP.out 5
      have z6 : wr.cell? ⟨w.heap.size, 6, none⟩ = some (.int .i64 0) := blk_cell HP.out 6
      have y6 := blk_frozen HP.out 6
      have z7 : wr.cell? ⟨w.heap.size, 7, none⟩ = some (.int .i64 0) := blk_cell HP.out 7
      have y7 := blk_frozen HP.out 7
      have z8 : wr.cell? ⟨w.heap.size, 8, none⟩ = some (.int .i64 0) := blk_cell HP.out 8
      have y8 := blk_frozen HP.out 8
      by_cases cf : (stS s 9).2 = 0
      · have cfb : ((stS s 9).2 != 0) = false := bne_eq_false_iff_eq.mpr cf
        by_cases cw : wrS s 9 = true
        · rw [cw]
          go_wp2
          all_goals have hF := finX 0 0 0 0 0 0 0 0 0 (g := g) (B := B) (w00 := w) HP.out HR.out hgw HB.out (by omega) HF.out (Nat.le_refl _)
          all_goals refine bodyPost_ret (results_ct rfl _ _ w.heap.size 23 _ (0, 0) _ rfl hF.heap Try.underlying23 rfl (by kernel_rfl)) rfl ⟨?_, hF.rd, hF.below, hF.far⟩
          all_goals (unfold resP; rw [if_neg (by omega), if_pos cw]; rfl)
        · have cwb : wrS s 9 = false := by simpa using cw
          have hset := fun (W : World) => run_storeCells_new (P := Try.prog) W 23 #[.int .i64 0, .int .i64 0, .int .i64 0, .int .i64 0, .int .i64 0, .int .i64 0, .int .i64 0, .int .i64 0, .int .i64 0] (polA (wrap64 (vaS s 0)) (wrap64 (vaS s 1)) (wrap64 (vaS s 2)) (wrap64 (vaS s 3)) (wrap64 (vaS s 4)) (wrap64 (vaS s 5)) (wrap64 (vaS s 6)) (wrap64 (vaS s 7)) (wrap64 (vaS s 8))) (by kernel_rfl) rfl (by simp [polA, Value.oneCell'])
          have n0 : wr.cell? ⟨w.heap.size + 1, 0, none⟩ = some (.int .u64 (vaS s 0)) := blk_cell HQ.out 0
          have n1 : wr.cell? ⟨w.heap.size + 1, 1, none⟩ = some (.int .u64 (vaS s 1)) := blk_cell HQ.out 1
          have n2 : wr.cell? ⟨w.heap.size + 1, 2, none⟩ = some (.int .u64 (vaS s 2)) := blk_cell HQ.out 2
          have n3 : wr.cell? ⟨w.heap.size + 1, 3, none⟩ = some (.int .u64 (vaS s 3)) := blk_cell HQ.out 3
          have n4 : wr.cell? ⟨w.heap.size + 1, 4, none⟩ = some (.int .u64 (vaS s 4)) := blk_cell HQ.out 4
          have n5 : wr.cell? ⟨w.heap.size + 1, 5, none⟩ = some (.int .u64 (vaS s 5)) := blk_cell HQ.out 5
          have n6 : wr.cell? ⟨w.heap.size + 1, 6, none⟩ = some (.int .u64 (vaS s 6)) := blk_cell HQ.out 6
          have n7 : wr.cell? ⟨w.heap.size + 1, 7, none⟩ = some (.int .u64 (vaS s 7)) := blk_cell HQ.out 7
          have n8 : wr.cell? ⟨w.heap.size + 1, 8, none⟩ = some (.int .u64 (vaS s 8)) := blk_cell HQ.out 8
          rw [cwb]
          go_wp2_with fail
          refine (ossuaryref18_Check.calls k (wrap64 (vaS s 0)) (wrap64 (vaS s 1)) (wrap64 (vaS s 2)) (wrap64 (vaS s 3)) (wrap64 (vaS s 4)) (wrap64 (vaS s 5)) (wrap64 (vaS s 6)) (wrap64 (vaS s 7)) (wrap64 (vaS s 8)) (polC s) _ HK.out).mono ?_
          rintro e w2 ⟨rfl, hb⟩
          have hb0 : Below wr.heap.size wr w2 := ((Below.refl _ wr).alloc (Nat.le_refl _) _).trans (hb.mono (by simp))
          have HG2 := Aside0.mk (blk_below (blk_new wr (.cells #[.int .i64 (wrap64 (vaS s 0)), .int .i64 (wrap64 (vaS s 1)), .int .i64 (wrap64 (vaS s 2)), .int .i64 (wrap64 (vaS s 3)), .int .i64 (wrap64 (vaS s 4)), .int .i64 (wrap64 (vaS s 5)), .int .i64 (wrap64 (vaS s 6)), .int .i64 (wrap64 (vaS s 7)), .int .i64 (wrap64 (vaS s 8))] 23 (0, 0))) hb)
          have HP2 := Aside0.mk (blk_below HP.out hb0)
          have HR2 := Aside0.mk (HR.out.below hb0)
          have HB2 := Aside0.mk (HB.out.trans (hb0.mono (by have := HF.out.size; omega)))
          have HF2 := Aside0.mk (HF.out.trans (Far.below hb0 (fun _ => False)) (fun _ _ h => h.elim))
          clear hb hb0 HP HR HB HF HQ hset hc1 hff n0 n1 n2 n3 n4 n5 n6 n7 n8 z0 z1 z2 z3 z4 z5 z6 z7 z8 y0 y1 y2 y3 y4 y5 y6 y7 y8
          have z0 : w2.cell? ⟨w.heap.size, 0, none⟩ = some (.int .i64 0) := blk_cell HP2.out 0
          have y0 := blk_frozen HP2.out 0
          have q0 : w2.cell? ⟨wr.heap.size, 0, none⟩ = some (.int .i64 (wrap64 (vaS s 0))) := blk_cell HG2.out 0
          have z1 : w2.cell? ⟨w.heap.size, 1, none⟩ = some (.int .i64 0) := blk_cell HP2.out 1
          have y1 := blk_frozen HP2.out 1
          have q1 : w2.cell? ⟨wr.heap.size, 1, none⟩ = some (.int .i64 (wrap64 (vaS s 1))) := blk_cell HG2.out 1
          have z2 : w2.cell? ⟨w.heap.size, 2, none⟩ = some (.int .i64 0) := blk_cell HP2.out 2
          have y2 := blk_frozen HP2.out 2
          have q2 : w2.cell? ⟨wr.heap.size, 2, none⟩ = some (.int .i64 (wrap64 (vaS s 2))) := blk_cell HG2.out 2
          have z3 : w2.cell? ⟨w.heap.size, 3, none⟩ = some (.int .i64 0) := blk_cell HP2.out 3
          have y3 := blk_frozen HP2.out 3
          have q3 : w2.cell? ⟨wr.heap.size, 3, none⟩ = some (.int .i64 (wrap64 (vaS s 3))) := blk_cell HG2.out 3
          have z4 : w2.cell? ⟨w.heap.size, 4, none⟩ = some (.int .i64 0) := blk_cell HP2.out 4
          have y4 := blk_frozen HP2.out 4
          have q4 : w2.cell? ⟨wr.heap.size, 4, none⟩ = some (.int .i64 (wrap64 (vaS s 4))) := blk_cell HG2.out 4
          have z5 : w2.cell? ⟨w.heap.size, 5, none⟩ = some (.int .i64 0) := blk_cell HP2.out 5
          have y5 := blk_frozen HP2.out 5
          have q5 : w2.cell? ⟨wr.heap.size, 5, none⟩ = some (.int .i64 (wrap64 (vaS s 5))) := blk_cell HG2.out 5
          have z6 : w2.cell? ⟨w.heap.size, 6, none⟩ = some (.int .i64 0) := blk_cell HP2.out 6
          have y6 := blk_frozen HP2.out 6
          have q6 : w2.cell? ⟨wr.heap.size, 6, none⟩ = some (.int .i64 (wrap64 (vaS s 6))) := blk_cell HG2.out 6
          have z7 : w2.cell? ⟨w.heap.size, 7, none⟩ = some (.int .i64 0) := blk_cell HP2.out 7
          have y7 := blk_frozen HP2.out 7
          have q7 : w2.cell? ⟨wr.heap.size, 7, none⟩ = some (.int .i64 (wrap64 (vaS s 7))) := blk_cell HG2.out 7
          have z8 : w2.cell? ⟨w.heap.size, 8, none⟩ = some (.int .i64 0) := blk_cell HP2.out 8
          have y8 := blk_frozen HP2.out 8
          have q8 : w2.cell? ⟨wr.heap.size, 8, none⟩ = some (.int .i64 (wrap64 (vaS s 8))) := blk_cell HG2.out 8
          by_cases cc : polC s = 0
          · have ccb : (polC s != 0) = false := bne_eq_false_iff_eq.mpr cc
            go_wp2
            all_goals have hF := finX (wrap64 (vaS s 0)) (wrap64 (vaS s 1)) (wrap64 (vaS s 2)) (wrap64 (vaS s 3)) (wrap64 (vaS s 4)) (wrap64 (vaS s 5)) (wrap64 (vaS s 6)) (wrap64 (vaS s 7)) (wrap64 (vaS s 8)) (g := g) (B := B) (w00 := w) HP2.out HR2.out hgw HB2.out (by omega) HF2.out (Nat.le_refl _)
            all_goals refine bodyPost_ret (results_ct rfl _ _ w.heap.size 23 _ (0, 0) _ rfl hF.heap Try.underlying23 rfl (by kernel_rfl)) rfl ⟨?_, hF.rd, hF.below, hF.far⟩
            all_goals (unfold resP; rw [if_neg (by omega), if_neg cw, if_pos cc]; rfl)
          · have ccb : (polC s != 0) = true := bne_iff_ne.mpr cc
            go_wp2
            all_goals have hF := finX 0 0 0 0 0 0 0 0 0 (g := g) (B := B) (w00 := w) HP2.out HR2.out hgw HB2.out (by omega) HF2.out (Nat.le_refl _)
            all_goals refine bodyPost_ret (results_ct rfl _ _ w.heap.size 23 _ (0, 0) _ rfl hF.heap Try.underlying23 rfl (by kernel_rfl)) rfl ⟨?_, hF.rd, hF.below, hF.far⟩
            all_goals (unfold resP; rw [if_neg (by omega), if_neg cw, if_neg cc]; rfl)
      · have cfb : ((stS s 9).2 != 0) = true := bne_iff_ne.mpr cf
        go_wp2_with fail
        go_region
        go_wp2
        have hF := finX 0 0 0 0 0 0 0 0 0 (g := g) (B := B) (w00 := w) HP.out HR.out hgw HB.out (by omega) HF.out (Nat.le_refl _)
        have hbd := fun (W : World) => (below_drew (Below.refl W.heap.size W) : Below W.heap.size W W.drew)
        refine bodyPost_ret (results_ct rfl _ _ w.heap.size 23 _ (0, 0) _ rfl (blk_drew hF.heap) Try.underlying23 rfl (by kernel_rfl)) rfl ⟨?_, hF.rd.below (hbd _), below_drew1 hF.below, hF.far.trans (Far.below (hbd _) (fun _ => False)) (fun _ _ h => h.elim)⟩
        unfold resP; rw [if_pos cf]; rfl
end Wr
end Go.Proofs.Ytjegkfdcelodeaa.P

namespace Go.Proofs.Ytjegkfdcelodeaa.P
open Go.RowKit Go.Proofs.YtjegkfdcelodeaaW.PrintWords Go.Proofs.YtjegkfdcelodeaaW.PrintLast Go.Proofs.YtjegkfdcelodeaaW.PrintMore
attribute [local go_sem] max2_int min2_int max_two min_two max_three min_three max_four min_four
set_option linter.unusedVariables false
set_option linter.unusedSimpArgs false
namespace Wr
set_option maxHeartbeats 8000000 in
set_option maxRecDepth 100000 in
theorem policy_Read_nil.calls (w : World) :
    Calls Try.prog 45 #[.pointer none] w fun e w' => e = .returned (.tuple #[.agg zeroP, .int .i64 1]) ∧ Below w.heap.size w w' := by
  have hset := fun (W : World) => run_storeCells_new (P := Try.prog) W 23 #[.int .i64 0, .int .i64 0, .int .i64 0, .int .i64 0, .int .i64 0, .int .i64 0, .int .i64 0, .int .i64 0, .int .i64 0] #[.int .i64 0, .int .i64 0, .int .i64 0, .int .i64 0, .int .i64 0, .int .i64 0, .int .i64 0, .int .i64 0, .int .i64 0] (by kernel_rfl) rfl (by simp [Value.oneCell'])
  have HB := Aside0.mk (show Below w.heap.size w (w.alloc (.cells #[.int .i64 0, .int .i64 0, .int .i64 0, .int .i64 0, .int .i64 0, .int .i64 0, .int .i64 0, .int .i64 0, .int .i64 0] 23 (0, 0))) from (Below.refl _ w).alloc (Nat.le_refl _) _)
  go_enter Try.func45, Try.ntmps45
  go_wp2
  exact bodyPost_ret (results_ct rfl _ _ w.heap.size 23 _ (0, 0) _ rfl (blk_new w _) Try.underlying23 rfl (by kernel_rfl)) rfl ⟨rfl, HB.out⟩
end Wr
end Go.Proofs.Ytjegkfdcelodeaa.P
