import Derived.Test.YtjegkfdcelodeaaPr
namespace Go.Proofs.Ytjegkfdcelodeaa.P
open Go.RowKit Go.Proofs.YtjegkfdcelodeaaW.PrintWords Go.Proofs.YtjegkfdcelodeaaW.PrintLast Go.Proofs.YtjegkfdcelodeaaW.PrintMore
attribute [local go_sem] max2_int min2_int max_two min_two max_three min_three max_four min_four
set_option linter.unusedVariables false
set_option linter.unusedSimpArgs false
namespace Wr
/-- A reader at g: the bytes that are left, and the fault. -/
structure XdS (g : Nat) (A : Option Addr) (c : Nat) (l : List Int) (f : Int) (W : World) : Prop where
  blk : W.heap[g]? = some (.cells #[.slice A l.length c, .int .i64 f] 69 (0, 0))
  cap : l.length ≤ c
  row : Kd.C (Kd.int .u8) W A l.length l
  under : ∀ ad, A = some ad → 0 < l.length → ad.block < g
theorem XdS.away {g : Nat} {A : Option Addr} {c : Nat} {l : List Int} {f : Int} {W : World} (h : XdS g A c l f W) : ∀ ad, A = some ad → 0 < l.length → ad.block ≠ g := fun ad e hp => Nat.ne_of_lt (h.under ad e hp)
def XdP (g : Nat) (l : List Int) (f : Int) (W : World) : Prop := ∃ A c, XdS g A c l f W
theorem XdS.c0 {g : Nat} {A : Option Addr} {c : Nat} {l : List Int} {f : Int} {W : World} (h : XdS g A c l f W) : W.cell? ⟨g, 0, none⟩ = some (.slice A l.length c) := blk_cell h.blk 0
theorem XdS.c1 {g : Nat} {A : Option Addr} {c : Nat} {l : List Int} {f : Int} {W : World} (h : XdS g A c l f W) : W.cell? ⟨g, 1, none⟩ = some (.int .i64 f) := blk_cell h.blk 1
theorem XdS.f0 {g : Nat} {A : Option Addr} {c : Nat} {l : List Int} {f : Int} {W : World} (h : XdS g A c l f W) : W.frozen? ⟨g, 0, none⟩ = false := blk_frozen h.blk 0
theorem XdS.f1 {g : Nat} {A : Option Addr} {c : Nat} {l : List Int} {f : Int} {W : World} (h : XdS g A c l f W) : W.frozen? ⟨g, 1, none⟩ = false := blk_frozen h.blk 1
/-- The fault turned. -/
theorem XdS.setF {g : Nat} {A : Option Addr} {c : Nat} {l : List Int} {f : Int} {W : World} (h : XdS g A c l f W) (f2 : Int) : XdS g A c l f2 (W.setCell ⟨g, 1, none⟩ (.int .i64 f2)) :=
  ⟨blk_put h.blk 1 _ rfl, h.cap, C_set h.row h.away 1 _, h.under⟩
/-- The bytes cut. -/
theorem XdS.cut {g : Nat} {A : Option Addr} {c : Nat} {l : List Int} {f : Int} {W : World} (h : XdS g A c l f W) (m : Nat) (hm : m ≤ l.length) :
    XdS g (if c = m then A else A.map (·.add (m * 1))) (c - m) (l.drop m) f (W.setCell ⟨g, 0, none⟩ (.slice (if c = m then A else A.map (·.add (m * 1))) (l.length - m) (c - m))) := by
  have ha : ∀ ad, (if c = m then A else A.map (·.add (m * 1))) = some ad → 0 < (l.drop m).length → ad.block < g := by
    intro ad e hp
    rw [List.length_drop] at hp
    split at e
    · exact h.under ad e (by omega)
    · obtain ⟨b, hb, rfl⟩ := Option.map_eq_some_iff.mp e
      have := h.under b hb (by omega)
      unfold Addr.add; split <;> simpa using this
  refine ⟨?_, by rw [List.length_drop]; have := h.cap; omega, ?_, ha⟩
  · rw [List.length_drop]; exact blk_put h.blk 0 _ rfl
  · exact C_set (Kd.C_drop h.row hm h.cap) (fun ad e hp => Nat.ne_of_lt (ha ad e hp)) 0 _
set_option maxHeartbeats 8000000 in
set_option maxRecDepth 100000 in
theorem Xbad.calls (B g : Nat) (l : List Int) (f : Int) (w0 w : World) (hB : Below B w0 w) (hg : B ≤ g) (hR : XdP g l f w) :
    Calls Try.prog 82 #[.pointer (some ⟨g, 0, none⟩)] w fun e w' => e = .returned (.tuple #[]) ∧ XdP g l (if f = 0 then 4 else f) w' ∧ Below B w0 w' ∧ Far w w' (fun k => k = g) := by
  obtain ⟨A, c, hR⟩ := hR
  have hc0 := hR.c0
  have hc1 := hR.c1
  have hf0 := hR.f0
  have hf1 := hR.f1
  have HR := Aside0.mk hR
  have HB := Aside0.mk hB
  clear hR hB
  by_cases cf : f = 0
  · subst cf
    go_enter Try.func82, Try.ntmps82
    go_wp2
    go_end0
    exact ⟨rfl, ⟨_, _, HR.out.setF 4⟩, HB.out.setCell hg _, (Far.refl w (fun k => k = g)).setCell (p := ⟨g, 1, none⟩) (.inr rfl) _⟩
  · have cfb : (f == 0) = false := beq_eq_false_iff_ne.mpr cf
    go_enter Try.func82, Try.ntmps82
    go_wp2
    go_end0
    exact ⟨rfl, ⟨_, _, HR.out⟩, HB.out, Far.refl w _⟩
def onePost (B g : Nat) (l : List Int) (f : Int) (w0 w : World) (e : Ending) (w' : World) : Prop :=
  Below B w0 w' ∧ Far w w' (fun k => k = g) ∧ (if f = 0 then (match l with | [] => e = .returned (.int .i64 0) ∧ XdP g [] 3 w' | c :: t => e = .returned (.int .i64 c) ∧ XdP g t 0 w') else e = .returned (.int .i64 0) ∧ XdP g l f w')
set_option maxHeartbeats 8000000 in
set_option maxRecDepth 100000 in
theorem Xone.calls (B g : Nat) (l : List Int) (f : Int) (w0 w : World) (hl : ∀ x ∈ l, 0 ≤ x ∧ x < 256) (hB : Below B w0 w) (hg : B ≤ g) (hR : XdP g l f w) :
    Calls Try.prog 81 #[.pointer (some ⟨g, 0, none⟩)] w (onePost B g l f w0 w) := by
  obtain ⟨A, c, hR⟩ := hR
  have hc0 := hR.c0
  have hc1 := hR.c1
  have hf0 := hR.f0
  have hf1 := hR.f1
  have HR := Aside0.mk hR
  have HB := Aside0.mk hB
  clear hR hB
  by_cases cf : f = 0
  · subst cf
    cases l with
    | nil =>
      go_enter Try.func81, Try.ntmps81
      go_wp2
      go_ret
      refine ⟨HB.out.setCell hg _, (Far.refl w (fun k => k = g)).setCell (p := ⟨g, 1, none⟩) (.inr rfl) _, ?_⟩
      rw [if_pos rfl]
      exact ⟨rfl, _, _, HR.out.setF 3⟩
    | cons x t =>
      have hx := hl x (by simp)
      obtain ⟨i5, hi5, hs5⟩ := info5i
      obtain ⟨A2, hA2⟩ : ∃ A2, A2 = (if c = 1 then A else A.map (·.add (1 * 1))) := ⟨_, rfl⟩
      have hcut2 : ∀ W : World, (Instr.slice 32 (.slice A (t.length + 1) c) (some (.int .i64 1)) none none).run Try.prog W = .ok (.slice A2 t.length (c - 1)) W := by
        rw [hA2]
        exact cut_from (P := Try.prog) 32 5 .i64 Try.underlying32 hi5 1 hs5 A (t.length + 1) c 1 (by omega) (by omega)
      have hd := HR.out.cut 1 (by simp)
      rw [← hA2] at hd
      have HD := Aside0.mk (show XdS g A2 (c - 1) t 0 (w.setCell ⟨g, 0, none⟩ (.slice A2 t.length (c - 1))) from hd)
      obtain ⟨ad, rfl, hcell⟩ := Kd.at_int HR.out.row 0 (by omega) (by simp)
      have hcell2 : w.cell? ad = some (.int .u8 x) := by simpa [rd, Addr.add] using hcell
      have hlb : (((t.length : Int) + 1) == 0) = false := beq_eq_false_iff_ne.mpr (by omega)
      have hc0' : w.cell? ⟨g, 0, none⟩ = some (.slice (some ad) (t.length + 1) c) := hc0
      clear hc0 hd hA2 hcell hi5 hs5
      go_enter Try.func81, Try.ntmps81
      go_wp2
      go_ret
      refine ⟨HB.out.setCell hg _, (Far.refl w (fun k => k = g)).setCell (p := ⟨g, 0, none⟩) (.inr rfl) _, ?_⟩
      rw [if_pos rfl]
      exact ⟨rfl, _, _, HD.out⟩
  · have cfb : (f != 0) = true := bne_iff_ne.mpr cf
    go_enter Try.func81, Try.ntmps81
    go_wp2
    go_ret
    refine ⟨HB.out, Far.refl w _, ?_⟩
    rw [if_neg cf]
    exact ⟨rfl, _, _, HR.out⟩
def XdR (B g : Nat) (r : Int × List Int × Int) (w0 w : World) (e : Ending) (w' : World) : Prop := e = .returned (.int .u64 r.1) ∧ XdP g r.2.1 r.2.2 w' ∧ Below B w0 w' ∧ Far w w' (fun k => k = g)
theorem pow_lt9 (i : Nat) (hi : i < 10) : (0 : Int) < 128 ^ i ∧ (128 : Int) ^ i ≤ 9223372036854775808 := by
  have : i = 0 ∨ i = 1 ∨ i = 2 ∨ i = 3 ∨ i = 4 ∨ i = 5 ∨ i = 6 ∨ i = 7 ∨ i = 8 ∨ i = 9 := by omega
  rcases this with h | h | h | h | h | h | h | h | h | h <;> subst h <;> decide
theorem add_grp (i : Nat) (m d : Int) (hi : i < 10) (m0 : 0 ≤ m) (m1 : m < 128 ^ i) (d0 : 0 ≤ d) (d1 : d < 128) (d9 : i = 9 → d ≤ 1) : IntKind.u64.wrap (m + IntKind.u64.wrap (d * 128 ^ i)) = m + d * 128 ^ i := by
  have h := or_grp i m d hi m0 m1 d0 d1 d9
  have h8 : m + d * 128 ^ i < 18446744073709551616 := by
    by_cases e : i = 9
    · subst e
      have := d9 rfl
      have e : (128 : Int) ^ 9 = 9223372036854775808 := by decide
      rw [e] at m1 ⊢; omega
    · have := (pow_lt9 (i + 1) (by omega)).2
      omega
  have hd0 : 0 ≤ d * 128 ^ i := Int.mul_nonneg d0 (by have := (pow_lt9 i hi).1; omega)
  rw [wrap_u64, wrap_u64]
  generalize d * 128 ^ i = y at *
  omega
set_option maxHeartbeats 8000000 in
set_option maxRecDepth 100000 in
theorem X_Num.calls (B g : Nat) (l : List Int) (f : Int) (w0 w : World) (hl : ∀ x ∈ l, 0 ≤ x ∧ x < 256) (hB : Below B w0 w) (hg : B ≤ g) (hR : XdP g l f w) :
    Calls Try.prog 71 #[.pointer (some ⟨g, 0, none⟩)] w (XdR B g (if f = 0 then rdNum 10 0 0 l else (0, l, f)) w0 w) := by
  have HR := Aside0.mk hR
  have HB := Aside0.mk hB
  clear hR hB
  generalize hr : (if f = 0 then rdNum 10 0 0 l else (0, l, f)) = r
  have Hr := Aside0.mk hr
  clear hr
  go_enter Try.func71, Try.ntmps71
  go_wp2
  go_loopw [5, 3, 4] (fun x5 x3 x4 wr => ∃ (i : Nat) (m y : Int) (l1 : List Int) (f1 : Int), x5 = .int .i64 i ∧ x3 = .int .u64 m ∧ x4 = .int .u64 y ∧ i ≤ 10 ∧ 0 ≤ m ∧ m < 128 ^ i ∧ (i < 10 → y = 128 ^ i) ∧ (∀ x ∈ l1, 0 ≤ x ∧ x < 256) ∧ (f1 = 0 ∨ i = 0) ∧ Aside0 ((if f1 = 0 then rdNum (10 - i) i m l1 else (0, l1, f1)) = r) ∧ Aside0 (XdP g l1 f1 wr) ∧ Aside0 (Below B w0 wr) ∧ Aside0 (Far w wr (fun k => k = g))) (fun x5 _ _ _ => 10 - (intOf x5).toNat)
  case atStart => exact ⟨0, 0, 1, l, f, rfl, rfl, rfl, by omega, by omega, by decide, fun _ => rfl, hl, .inr rfl, Hr, HR, HB, ⟨Far.refl _ _⟩⟩
  case round =>
    clear Hr HR HB
    obtain ⟨i, m, y, l1, f1, rfl, rfl, rfl, hi, m0, m1, hy, hl1, hf1, HE, HR, HB, HF⟩ := hrel
    by_cases hlt : i < 10
    · have hltb : decide ((i : Int) < 10) = true := decide_eq_true (by omega)
      have hy1 := hy hlt
      clear hy
      go_wp2_with fail
      refine (Xone.calls B g l1 f1 w0 wr hl1 HB.out hg HR.out).mono ?_
      rintro e w1 ⟨hb1, hf1', ht⟩
      have HB1 := Aside0.mk hb1
      have HF1 := Aside0.mk (HF.out.trans hf1' (fun _ _ h => h))
      clear hb1 hf1' HB HF HR
      by_cases hz : f1 = 0
      · subst hz
        rw [if_pos rfl] at ht
        match l1, hl1, ht, HE with
        | [], hl1, ht, HE =>
          obtain ⟨rfl, hR1⟩ := ht
          obtain ⟨A, c, hR1⟩ := hR1
          have hc1 := hR1.c1
          have hff := hR1.f1
          have HR1 := Aside0.mk hR1
          clear hR1
          go_wp2
          go_ret
          have hr := HE.out
          simp only [if_true, show 10 - i = (10 - (i + 1)) + 1 from by omega, rdNum] at hr
          subst hr
          exact ⟨rfl, ⟨_, _, HR1.out⟩, HB1.out, HF1.out⟩
        | c :: t, hl1, ht, HE =>
          obtain ⟨rfl, hR1⟩ := ht
          have hcb := hl1 c (by simp)
          have hl2 : ∀ x ∈ t, 0 ≤ x ∧ x < 256 := fun x hx => hl1 x (List.mem_cons_of_mem _ hx)
          have HR1 := Aside0.mk hR1
          obtain ⟨A, cc, hR1⟩ := hR1
          have hc1 := hR1.c1
          have hff := hR1.f1
          have hE1 := HE.out
          rw [if_pos rfl, show 10 - i = (10 - (i + 1)) + 1 from by omega, rdNum] at hE1
          clear hR1 hl1 HE
          have hT : Int.tmod c 128 = c % 128 := Int.tmod_eq_emod_of_nonneg hcb.1
          have hW : IntKind.u64.wrap (c % 128) = c % 128 := by rw [wrap_u64]; omega
          by_cases cA : i = 9 ∧ 1 < c % 128
          · rw [if_pos cA] at hE1
            have hE := Aside0.mk hE1
            obtain ⟨rfl, cA2⟩ := cA
            clear hE1
            have b1 : decide (1 < c % 128) = true := decide_eq_true cA2
            go_wp2_with fail
            refine (Xbad.calls B g t 0 w0 w1 HB1.out hg HR1.out).mono ?_
            rintro e w2 ⟨rfl, hR2, hb2, hF2⟩
            have HR2 := Aside0.mk (show XdP g t 4 w2 by simpa using hR2)
            have HB2 := Aside0.mk hb2
            have HF2 := Aside0.mk (HF1.out.trans hF2 (fun _ _ h => h))
            clear hR2 hb2 hF2
            go_wp2
            go_ret
            have hr := hE.out
            subst hr
            exact ⟨rfl, HR2.out, HB2.out, HF2.out⟩
          · rw [if_neg cA] at hE1
            have hG := Aside0.mk (or_grp i m (c % 128) hlt m0 m1 (by omega) (by omega) (by omega))
            have hG0 := add_grp i m (c % 128) hlt m0 m1 (by omega) (by omega) (by omega)
            have hG00 : IntKind.u64.wrap (m + IntKind.u64.wrap 0) = m := by
              have := (pow_lt9 i hlt).2
              rw [wrap_u64, wrap_u64]; omega
            have nine : ((i : Int) == 9) = true ∧ decide (1 < c % 128) = false ∨ ((i : Int) == 9) = false := by
              by_cases c9 : i = 9
              · exact .inl ⟨beq_iff_eq.mpr (by omega), decide_eq_false (by omega)⟩
              · exact .inr (beq_eq_false_iff_ne.mpr (by omega))
            by_cases cB : c < 128 ∧ c % 128 = 0 ∧ 0 < i
            · rw [if_pos cB] at hE1
              have hE := Aside0.mk hE1
              clear hE1
              obtain ⟨cB1, cB2, cB3⟩ := cB
              have b2 : decide (c < 128) = true := decide_eq_true cB1
              have b3 : (c % 128 == 0) = true := beq_iff_eq.mpr cB2
              have b4 : decide (0 < (i : Int)) = true := decide_eq_true (by omega)
              rcases nine with ⟨b5, b6⟩ | b5
              all_goals
                (
                 go_wp2_with fail
                 refine (Xbad.calls B g t 0 w0 w1 HB1.out hg HR1.out).mono ?_
                 rintro e w2 ⟨rfl, hR2, hb2, hF2⟩
                 have HR2 := Aside0.mk (show XdP g t 4 w2 by simpa using hR2)
                 have HB2 := Aside0.mk hb2
                 have HF2 := Aside0.mk (HF1.out.trans hF2 (fun _ _ h => h))
                 clear hR2 hb2 hF2
                 go_wp2
                 go_ret
                 have hr := hE.out
                 subst hr
                 exact ⟨rfl, HR2.out, HB2.out, HF2.out⟩)
            · rw [if_neg cB] at hE1
              by_cases cC : c < 128
              · rw [if_pos cC] at hE1
                have hE := Aside0.mk hE1
                clear hE1
                have b2 : decide (c < 128) = true := decide_eq_true cC
                rcases nine with ⟨b5, b6⟩ | b5
                all_goals
                  (go_wp2
                   all_goals go_ret
                   all_goals have hr := hE.out
                   all_goals subst hr
                   all_goals refine ⟨?_, HR1.out, HB1.out, HF1.out⟩
                   all_goals first
                     | rfl
                     | (have hz0 : c % 128 = 0 := by assumption
                        show Ending.returned (.int .u64 m) = .returned (.int .u64 (m + c % 128 * 128 ^ i))
                        rw [hz0, Int.zero_mul, Int.add_zero])
                     | trace_state)
              · rw [if_neg cC] at hE1
                have hE := Aside0.mk hE1
                clear hE1
                have b2 : decide (c < 128) = false := decide_eq_false cC
                rcases nine with ⟨b5, b6⟩ | b5
                all_goals
                  (go_wp2
                   go_roundw
                   case rel => exact ⟨i + 1, m + c % 128 * 128 ^ i, _, t, 0, by go_num, by first | rfl | rw [hG0], rfl, by omega, hG.out.2.1, hG.out.2.2, fun h9 => by have p := pow_lt9 (i + 1) h9; rw [Int.pow_succ] at p ⊢; rw [wrap_u64]; omega, hl2, .inl rfl, ⟨by rw [if_pos rfl]; exact hE.out⟩, HR1, HB1, HF1⟩
                   case measure => simp [intOf]; omega)
      · rw [if_neg hz] at ht
        obtain ⟨rfl, hR1⟩ := ht
        have hzb : (f1 != 0) = true := bne_iff_ne.mpr hz
        obtain ⟨A, c, hR1⟩ := hR1
        have hc1 := hR1.c1
        have hff := hR1.f1
        have HR1 := Aside0.mk hR1
        clear hR1
        go_wp2
        go_ret
        have hr := HE.out
        rw [if_neg hz] at hr
        subst hr
        exact ⟨rfl, ⟨_, _, HR1.out⟩, HB1.out, HF1.out⟩
    · obtain rfl : i = 10 := by omega
      have hltb : decide (((10 : Nat) : Int) < 10) = false := by decide
      have hf0 : f1 = 0 := by omega
      subst hf0
      go_wp2_with fail
      refine (Xbad.calls B g l1 0 w0 wr HB.out hg HR.out).mono ?_
      rintro e w2 ⟨rfl, hR2, hb2, hF2⟩
      have HR2 := Aside0.mk (show XdP g l1 4 w2 by simpa using hR2)
      have HB2 := Aside0.mk hb2
      have HF2 := Aside0.mk (HF.out.trans hF2 (fun _ _ h => h))
      clear hR2 hb2 hF2
      go_wp2
      go_ret
      have hr := HE.out
      simp only [if_true, Nat.sub_self, rdNum] at hr
      subst hr
      exact ⟨rfl, HR2.out, HB2.out, HF2.out⟩
end Wr
end Go.Proofs.Ytjegkfdcelodeaa.P
