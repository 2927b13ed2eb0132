import Derived.Test.YtjegkfdcelodeaaPx4
import Derived.Test.YtjegkfdcelodeaaLw1
namespace Go.Proofs.Ytjegkfdcelodeaa.P
open Go.RowKit Go.Proofs.YtjegkfdcelodeaaW.PrintWords Go.Proofs.YtjegkfdcelodeaaW.PrintLast Go.Proofs.YtjegkfdcelodeaaW.PrintMore
attribute [local go_sem] max2_int min2_int max_two min_two max_three min_three max_four min_four
set_option linter.unusedVariables false
set_option linter.unusedSimpArgs false
namespace Wr
set_option maxHeartbeats 8000000 in
set_option maxRecDepth 100000 in
theorem Left.calls (g : Nat) (l : List Int) (f : Int) (w : World) (hR : RdP g l f w) :
    Calls Try.prog 47 #[.pointer (some ⟨g, 0, none⟩)] w fun e w' => e = .returned (.int .i64 l.length) ∧ Below w.heap.size w w' := by
  obtain ⟨A, c, hR⟩ := hR
  have hc0 := hR.c0
  have hf0 := hR.f0
  have HB := Aside0.mk (Below.refl w.heap.size w)
  go_enter Try.func47, Try.ntmps47
  go_wp2
  go_ret
  exact ⟨rfl, HB.out⟩
set_option maxHeartbeats 8000000 in
set_option maxRecDepth 100000 in
theorem Fault.calls (g : Nat) (l : List Int) (f : Int) (w : World) (hR : RdP g l f w) :
    Calls Try.prog 53 #[.pointer (some ⟨g, 0, none⟩)] w fun e w' => e = .returned (.int .i64 f) ∧ Below w.heap.size w w' := by
  obtain ⟨A, c, hR⟩ := hR
  have hc1 := hR.c1
  have hf1 := hR.f1
  have HB := Aside0.mk (Below.refl w.heap.size w)
  go_enter Try.func53, Try.ntmps53
  go_wp2
  go_ret
  exact ⟨rfl, HB.out⟩
/-- What one call of Num makes of a reader's state. -/
def numS (s : List Int × Int) : Int × List Int × Int := if s.2 = 0 then rdNum 10 0 0 s.1 else (0, s.1, s.2)
def stS (s : List Int × Int) : Nat → List Int × Int
  | 0 => s
  | i + 1 => (numS (stS s i)).2
def vaS (s : List Int × Int) (i : Nat) : Int := (numS (stS s i)).1
def wrS (s : List Int × Int) : Nat → Bool
  | 0 => false
  | i + 1 => wrS s i || decide (4611686018427387904 < vaS s i)
def cvS (s : List Int × Int) (i j : Nat) : Int := if j < i then wrap64 (vaS s j) else 0
def cellsP (s : List Int × Int) (i : Nat) : Array Value := #[.int .i64 (cvS s i 0), .int .i64 (cvS s i 1), .int .i64 (cvS s i 2), .int .i64 (cvS s i 3), .int .i64 (cvS s i 4), .int .i64 (cvS s i 5), .int .i64 (cvS s i 6), .int .i64 0, .int .i64 (cvS s i 8)]
theorem rdNum_sub : ∀ (d i : Nat) (n : Int) (l : List Int), ∀ x ∈ (rdNum d i n l).2.1, x ∈ l
  | 0, _, _, l, x, h => h
  | d + 1, i, n, [], x, h => by simp [rdNum] at h
  | d + 1, i, n, c :: t, x, h => by
    rw [rdNum] at h
    split at h
    · exact List.mem_cons_of_mem _ h
    · split at h
      · exact List.mem_cons_of_mem _ h
      · split at h
        · exact List.mem_cons_of_mem _ h
        · exact List.mem_cons_of_mem _ (rdNum_sub d _ _ t x h)
theorem stS_sub (s : List Int × Int) : ∀ i, ∀ x ∈ (stS s i).1, x ∈ s.1
  | 0, x, h => h
  | i + 1, x, h => by
    refine stS_sub s i x ?_
    simp only [stS, numS] at h
    split at h
    · exact rdNum_sub _ _ _ _ x h
    · exact h
theorem rdNum_bd : ∀ (d i : Nat) (n : Int) (l : List Int), (∀ x ∈ l, 0 ≤ x ∧ x < 256) → i + d = 10 → 0 ≤ n → n < 128 ^ i → 0 ≤ (rdNum d i n l).1 ∧ (rdNum d i n l).1 < 18446744073709551616
  | 0, _, _, l, _, _, _, _ => by simp [rdNum]
  | d + 1, i, n, [], _, _, _, _ => by simp [rdNum]
  | d + 1, i, n, c :: t, hl, hi, h0, h1 => by
    have hc := hl c (by simp)
    rw [rdNum]
    split
    · simp
    · rename_i cA
      split
      · simp
      · have hg := or_grp i n (c % 128) (by omega) h0 h1 (by omega) (by omega) (by omega)
        split
        · refine ⟨hg.2.1, ?_⟩
          by_cases e : i = 9
          · subst e
            have hd : c % 128 ≤ 1 := by omega
            simp only at h1 ⊢
            have : (128 : Int) ^ 9 = 9223372036854775808 := by decide
            rw [this] at h1 ⊢; omega
          · have hp : (128 : Int) ^ (i + 1) ≤ 9223372036854775808 := by
              have : i = 0 ∨ i = 1 ∨ i = 2 ∨ i = 3 ∨ i = 4 ∨ i = 5 ∨ i = 6 ∨ i = 7 ∨ i = 8 := by omega
              rcases this with h | h | h | h | h | h | h | h | h <;> subst h <;> decide
            have := hg.2.2
            simp only; omega
        · exact rdNum_bd d (i + 1) _ t (fun x hx => hl x (List.mem_cons_of_mem _ hx)) (by omega) hg.2.1 hg.2.2
theorem vaS_bd (s : List Int × Int) (hs : ∀ x ∈ s.1, 0 ≤ x ∧ x < 256) (i : Nat) : 0 ≤ vaS s i ∧ vaS s i < 18446744073709551616 := by
  unfold vaS numS
  split
  · exact rdNum_bd 10 0 0 _ (fun x hx => hs x (stS_sub s i x hx)) rfl (by omega) (by decide)
  · simp
theorem cells_step (s : List Int × Int) (i : Nat) (hi : i < 9) (h7 : i ≠ 7) : (cellsP s i).setIfInBounds i (.int .i64 (wrap64 (vaS s i))) = cellsP s (i + 1) := by
  match i, hi, h7 with
  | 0, _, _ => simp [cellsP, cvS]
  | 1, _, _ => simp [cellsP, cvS]
  | 2, _, _ => simp [cellsP, cvS]
  | 3, _, _ => simp [cellsP, cvS]
  | 4, _, _ => simp [cellsP, cvS]
  | 5, _, _ => simp [cellsP, cvS]
  | 6, _, _ => simp [cellsP, cvS]
  | 8, _, _ => simp [cellsP, cvS]
theorem cells_7 (s : List Int × Int) : cellsP s 7 = cellsP s 8 := by simp [cellsP, cvS]
theorem q_step (s : List Int × Int) (i : Nat) (h7 : i ≠ 7) : cvS s (i + 1) 7 = cvS s i 7 := by
  unfold cvS
  by_cases c : 7 < i
  · rw [if_pos c, if_pos (by omega)]
  · rw [if_neg c, if_neg (by omega)]
theorem cell_at (s : List Int × Int) (i : Nat) (hi : i < 9) (h7 : i ≠ 7) : (cellsP s i)[i]? = some (.int .i64 0) := by
  match i, hi, h7 with
  | 0, _, _ => simp [cellsP, cvS]
  | 1, _, _ => simp [cellsP, cvS]
  | 2, _, _ => simp [cellsP, cvS]
  | 3, _, _ => simp [cellsP, cvS]
  | 4, _, _ => simp [cellsP, cvS]
  | 5, _, _ => simp [cellsP, cvS]
  | 6, _, _ => simp [cellsP, cvS]
  | 8, _, _ => simp [cellsP, cvS]
/-- A cell beyond the reader turned. -/
theorem RdP.set {g : Nat} {l : List Int} {f : Int} {W : World} (h : RdP g l f W) (p : Nat) (hp : g < p) (j : Nat) (u : Value) : RdP g l f (W.setCell ⟨p, j, none⟩ u) := by
  obtain ⟨A, c, h⟩ := h
  refine ⟨A, c, ?_, h.cap, C_set h.row (fun ad e hl => by have := h.under ad e hl; omega) j u, h.under⟩
  rw [Below.heap_setCell W ⟨p, j, none⟩ u g (by simp; omega)]
  exact h.blk
def polS (s : List Int × Int) : Array Value := polA (cvS s 9 0) (cvS s 9 1) (cvS s 9 2) (cvS s 9 3) (cvS s 9 4) (cvS s 9 5) (cvS s 9 6) (cvS s 9 7) (cvS s 9 8)
def polC (s : List Int × Int) : Int := chkL (polL (cvS s 9 0) (cvS s 9 1) (cvS s 9 2) (cvS s 9 3) (cvS s 9 4) (cvS s 9 5) (cvS s 9 6) (cvS s 9 7) (cvS s 9 8)) 9 0
def zeroP : Array Value := polA 0 0 0 0 0 0 0 0 0
def resP (s : List Int × Int) : Array Value × Int := if (stS s 9).2 ≠ 0 then (zeroP, (stS s 9).2) else if wrS s 9 = true then (zeroP, 2) else if polC s = 0 then (polS s, 0) else (zeroP, polC s)
structure S9 (p g B : Nat) (w00 w0 : World) (l : List Int) (f : Int) (cs : Array Value) (w : World) : Prop where
  heap : w.heap[p]? = some (.cells cs 23 (0, 0))
  rd : RdP g l f w
  below : Below B w0 w
  far : Far w00 w (fun k => k = g)
theorem S9.step {p g B : Nat} {w00 w0 w : World} {l : List Int} {f : Int} {cs cs' : Array Value} (h : S9 p g B w00 w0 l f cs w) (hp : g < p) (hB : B ≤ p) (hw : w00.heap.size ≤ p) (i : Nat) (u : Value) (e : cs.setIfInBounds i u = cs') : S9 p g B w00 w0 l f cs' (w.setCell ⟨p, i, none⟩ u) :=
  ⟨blk_put h.heap i u e, h.rd.set p hp i u, h.below.setCell hB u, h.far.setCell (.inl hw) u⟩
theorem fin9 {p g B : Nat} {a0 a1 a2 a3 a4 a5 a6 a7 a8 : Int} (x0 x1 x2 x3 x4 x5 x6 x7 x8 : Int) {l : List Int} {f : Int} {w00 w0 w : World} (hk : w.heap[p]? = some (.cells (polA a0 a1 a2 a3 a4 a5 a6 a7 a8) 23 (0, 0))) (hr : RdP g l f w) (hp : g < p) (hb : Below B w0 w) (hB : B ≤ p) (hf : Far w00 w (fun k => k = g)) (hw : w00.heap.size ≤ p) :
    S9 p g B w00 w0 l f (polA x0 x1 x2 x3 x4 x5 x6 x7 x8) ((((((((((((((((((w.setCell ⟨p, 0, none⟩ (.int .i64 x0))).setCell ⟨p, 1, none⟩ (.int .i64 x1))).setCell ⟨p, 2, none⟩ (.int .i64 x2))).setCell ⟨p, 3, none⟩ (.int .i64 x3))).setCell ⟨p, 4, none⟩ (.int .i64 x4))).setCell ⟨p, 5, none⟩ (.int .i64 x5))).setCell ⟨p, 6, none⟩ (.int .i64 x6))).setCell ⟨p, 7, none⟩ (.int .i64 x7))).setCell ⟨p, 8, none⟩ (.int .i64 x8))) := by
  have s0 : S9 p g B w00 w0 l f (polA a0 a1 a2 a3 a4 a5 a6 a7 a8) w := ⟨hk, hr, hb, hf⟩
  have s1 := s0.step hp hB hw 0 (.int .i64 x0) (cs' := polA x0 a1 a2 a3 a4 a5 a6 a7 a8) rfl
  have s2 := s1.step hp hB hw 1 (.int .i64 x1) (cs' := polA x0 x1 a2 a3 a4 a5 a6 a7 a8) rfl
  have s3 := s2.step hp hB hw 2 (.int .i64 x2) (cs' := polA x0 x1 x2 a3 a4 a5 a6 a7 a8) rfl
  have s4 := s3.step hp hB hw 3 (.int .i64 x3) (cs' := polA x0 x1 x2 x3 a4 a5 a6 a7 a8) rfl
  have s5 := s4.step hp hB hw 4 (.int .i64 x4) (cs' := polA x0 x1 x2 x3 x4 a5 a6 a7 a8) rfl
  have s6 := s5.step hp hB hw 5 (.int .i64 x5) (cs' := polA x0 x1 x2 x3 x4 x5 a6 a7 a8) rfl
  have s7 := s6.step hp hB hw 6 (.int .i64 x6) (cs' := polA x0 x1 x2 x3 x4 x5 x6 a7 a8) rfl
  have s8 := s7.step hp hB hw 7 (.int .i64 x7) (cs' := polA x0 x1 x2 x3 x4 x5 x6 x7 a8) rfl
  have s9 := s8.step hp hB hw 8 (.int .i64 x8) (cs' := polA x0 x1 x2 x3 x4 x5 x6 x7 x8) rfl
  exact s9
set_option maxHeartbeats 8000000 in
set_option maxRecDepth 100000 in
theorem policy_Read.calls (B g : Nat) (s : List Int × Int) (w0 w : World) (hl : ∀ x ∈ s.1, 0 ≤ x ∧ x < 256) (hB : Below B w0 w) (hg : B ≤ g) (hR : RdP g s.1 s.2 w) :
    Calls Try.prog 45 #[.pointer (some ⟨g, 0, none⟩)] w fun e w' => e = .returned (.tuple #[.agg (resP s).1, .int .i64 (resP s).2]) ∧ RdP g (stS s 9).1 (stS s 9).2 w' ∧ Below B w0 w' ∧ Far w w' (fun k => k = g) := by
  have hgw : g < w.heap.size := by obtain ⟨A, c, h⟩ := hR; exact blk_lt h.blk
  have HR := Aside0.mk hR
  have HB := Aside0.mk hB
  clear hR hB
  have hm : ∀ (i : Nat), i < 9 → ∀ W : World, (Instr.index 108 (.agg #[.pointer (some ⟨w.heap.size, 0, none⟩), .pointer (some ⟨w.heap.size, 1, none⟩), .pointer (some ⟨w.heap.size, 2, none⟩), .pointer (some ⟨w.heap.size, 3, none⟩), .pointer (some ⟨w.heap.size, 4, none⟩), .pointer (some ⟨w.heap.size, 5, none⟩), .pointer (some ⟨w.heap.size, 6, none⟩), .pointer (some ⟨w.heap.size + 1, 0, none⟩), .pointer (some ⟨w.heap.size, 8, none⟩)]) (.int .i64 i)).run Try.prog W = .ok (.pointer (some (if i = 7 then ⟨w.heap.size + 1, 0, none⟩ else ⟨w.heap.size, i, none⟩))) W := by
    intro i hi W
    match i, hi with
    | 0, _ => rfl
    | 1, _ => rfl
    | 2, _ => rfl
    | 3, _ => rfl
    | 4, _ => rfl
    | 5, _ => rfl
    | 6, _ => rfl
    | 7, _ => rfl
    | 8, _ => rfl
  have HM := Aside0.mk hm
  clear hm
  have HL := Aside0.mk hl
  go_enter Try.func45, Try.ntmps45
  go_wp2
  go_loopw [22, 5] (fun x22 x5 wr => ∃ (i : Nat), x22 = .int .i64 i ∧ x5 = .bool (wrS s i) ∧ i ≤ 9 ∧ Aside0 (RdP g (stS s i).1 (stS s i).2 wr) ∧ Aside0 (wr.heap[w.heap.size]? = some (.cells (cellsP s i) 23 (0, 0))) ∧ Aside0 (wr.heap[w.heap.size + 1]? = some (.cells #[.int .i64 (cvS s i 7)] 2 (0, 0))) ∧ Aside0 (Below B w0 wr) ∧ Aside0 (Far w wr (fun k => k = g))) (fun x22 _ _ => 9 - (intOf x22).toNat)
  case atStart =>
    refine ⟨0, rfl, rfl, by omega, ⟨?_⟩, ⟨?_⟩, ⟨?_⟩, ⟨?_⟩, ⟨?_⟩⟩
    · exact (HR.out.below ((Below.refl _ w).alloc (Nat.le_refl _) _)).below ((Below.refl _ _).alloc (Nat.le_refl _) _)
    · exact blk_alloc (blk_new w _) _
    · exact blk_at _ _ _ (by simp)
    · exact (HB.out.alloc (by omega) _).alloc (by simp; omega) _
    · exact ((Far.refl w _).alloc _).alloc _
  case round =>
    clear HR HB
    obtain ⟨i, rfl, rfl, hi, HR, HP, HQ, HB, HF⟩ := hrel
    by_cases hlt : i < 9
    · have hltb : decide ((i : Int) < 9) = true := decide_eq_true (by omega)
      by_cases h7 : i = 7
      · have hm0 := HM.out i hlt
        rw [if_pos h7] at hm0
        have hm : ∀ W : World, (Instr.index 108 (.agg #[.pointer (some ⟨w.heap.size, 0, none⟩), .pointer (some ⟨w.heap.size, 1, none⟩), .pointer (some ⟨w.heap.size, 2, none⟩), .pointer (some ⟨w.heap.size, 3, none⟩), .pointer (some ⟨w.heap.size, 4, none⟩), .pointer (some ⟨w.heap.size, 5, none⟩), .pointer (some ⟨w.heap.size, 6, none⟩), .pointer (some ⟨w.heap.size + 1, 0, none⟩), .pointer (some ⟨w.heap.size, 8, none⟩)]) (.int .i64 7)).run Try.prog W = .ok (.pointer (some ⟨w.heap.size + 1, 0, none⟩)) W := by
          subst h7; exact hm0
        clear hm0
        cases hw : wrS s i
        all_goals
          (go_wp2_with fail
           refine (Reader_Num.calls B g (stS s i).1 (stS s i).2 w0 wr (fun x hx => hl x (stS_sub s i x hx)) HB.out hg HR.out).mono ?_
           rintro e w1 ⟨rfl, hr1, hb1, hf1⟩
           have HR1 := Aside0.mk (show RdP g (stS s (i + 1)).1 (stS s (i + 1)).2 w1 from hr1)
           have HB1 := Aside0.mk hb1
           have HF1 := Aside0.mk (HF.out.trans hf1 (fun _ _ h => h))
           have hp1 := hf1.blk HP.out (by omega)
           have hq1 := hf1.blk HQ.out (by omega)
           have hv : (if (stS s i).2 = 0 then rdNum 10 0 0 (stS s i).1 else (0, (stS s i).1, (stS s i).2)).1 = vaS s i := rfl
           rw [hv]
           clear hr1 hb1 hf1 HR HB HF HP HQ hv
           have hcq := blk_cell hq1 0
           have hfq := blk_frozen hq1 0
           have HP1 := Aside0.mk hp1
           have HQ1 := Aside0.mk hq1
           clear hp1 hq1
           go_wp2
           go_roundw
           case rel => exact ⟨i + 1, by go_num, by (simp [wrS, hw]) <;> rw [h7], by omega, ⟨HR1.out.set _ (by omega) 0 _⟩, ⟨by subst h7; rw [← cells_7]; exact (Below.heap_setCell _ _ _ _ (by simp)).trans HP1.out⟩, ⟨blk_put HQ1.out 0 _ (by subst h7; simp [cvS])⟩, ⟨HB1.out.setCell (by simp; omega) _⟩, ⟨HF1.out.setCell (.inl (by simp)) _⟩⟩
           case measure => simp [intOf]; omega)
      · have hm := HM.out i hlt
        rw [if_neg h7] at hm
        cases hw : wrS s i
        all_goals
          (go_wp2_with fail
           refine (Reader_Num.calls B g (stS s i).1 (stS s i).2 w0 wr (fun x hx => hl x (stS_sub s i x hx)) HB.out hg HR.out).mono ?_
           rintro e w1 ⟨rfl, hr1, hb1, hf1⟩
           have HR1 := Aside0.mk (show RdP g (stS s (i + 1)).1 (stS s (i + 1)).2 w1 from hr1)
           have HB1 := Aside0.mk hb1
           have HF1 := Aside0.mk (HF.out.trans hf1 (fun _ _ h => h))
           have hp1 := hf1.blk HP.out (by omega)
           have hq1 := hf1.blk HQ.out (by omega)
           have hv : (if (stS s i).2 = 0 then rdNum 10 0 0 (stS s i).1 else (0, (stS s i).1, (stS s i).2)).1 = vaS s i := rfl
           rw [hv]
           clear hr1 hb1 hf1 HR HB HF HP HQ hv
           have hcp := (blk_cell hp1 i).trans (cell_at s i hlt h7)
           have hfp := blk_frozen hp1 i
           have HP1 := Aside0.mk hp1
           have HQ1 := Aside0.mk hq1
           clear hp1 hq1
           go_wp2
           go_roundw
           case rel => exact ⟨i + 1, by go_num, by simp [wrS, hw], by omega, ⟨HR1.out.set _ (by omega) i _⟩, ⟨blk_put HP1.out i _ (cells_step s i hlt h7)⟩, ⟨by rw [q_step s i h7]; exact (Below.heap_setCell _ _ _ _ (by simp)).trans HQ1.out⟩, ⟨HB1.out.setCell (by simp; omega) _⟩, ⟨HF1.out.setCell (.inl (by simp)) _⟩⟩
           case measure => simp [intOf]; omega)
    · obtain rfl : i = 9 := by omega
      have hltb : decide (((9 : Nat) : Int) < 9) = false := by decide
      clear hlt hi HM
      have hk : wr.heap[w.heap.size]? = some (.cells #[.int .i64 (cvS s 9 0), .int .i64 (cvS s 9 1), .int .i64 (cvS s 9 2), .int .i64 (cvS s 9 3), .int .i64 (cvS s 9 4), .int .i64 (cvS s 9 5), .int .i64 (cvS s 9 6), .int .i64 0, .int .i64 (cvS s 9 8)] 23 (0, 0)) := HP.out
      have hkc := blk_cell hk 7
      have hkf := blk_frozen hk 7
      have hqc := blk_cell HQ.out 0
      have hqf := blk_frozen HQ.out 0
      have HK := Aside0.mk (show (wr.setCell ⟨w.heap.size, 7, none⟩ (.int .i64 (cvS s 9 7))).heap[w.heap.size]? = some (.cells (polS s) 23 (0, 0)) from blk_put hk 7 _ rfl)
      have HR2 := Aside0.mk (HR.out.set w.heap.size hgw 7 (.int .i64 (cvS s 9 7)))
      have HB2 := Aside0.mk (HB.out.setCell (p := ⟨w.heap.size, 7, none⟩) (by simp; omega) (.int .i64 (cvS s 9 7)))
      have HF2 := Aside0.mk (HF.out.setCell (p := ⟨w.heap.size, 7, none⟩) (.inl (by simp)) (.int .i64 (cvS s 9 7)))
      clear hk HP HQ HR HB HF
      go_wp2_with fail
      clear hkc hkf hqc hqf
      generalize wr.setCell ⟨w.heap.size, 7, none⟩ (.int .i64 (cvS s 9 7)) = w2 at *
      refine (Fault.calls g _ _ _ HR2.out).mono ?_
      rintro e w3 ⟨rfl, hb3⟩
      have HR3 := Aside0.mk (HR2.out.below hb3)
      have HK3 := Aside0.mk (blk_below HK.out hb3)
      have HB3 := Aside0.mk (HB2.out.trans (hb3.mono (by have := HF2.out.size; omega)))
      have HF3 := Aside0.mk (HF2.out.trans (Far.below hb3 (fun _ => False)) (fun _ _ h => h.elim))
      clear hb3 HR2 HK HB2 HF2
      by_cases cf : (stS s 9).2 = 0
      · by_cases cw : wrS s 9 = true
        · have hk3 := HK3.out
          unfold polS polA at hk3
          obtain ⟨h0, h1, h2, h3, h4, h5, h6, h7, h8⟩ := cells9 hk3
          have f0 := blk_frozen hk3 0
          have f1 := blk_frozen hk3 1
          have f2 := blk_frozen hk3 2
          have f3 := blk_frozen hk3 3
          have f4 := blk_frozen hk3 4
          have f5 := blk_frozen hk3 5
          have f6 := blk_frozen hk3 6
          have f7 := blk_frozen hk3 7
          have f8 := blk_frozen hk3 8
          clear hk3
          go_wp2
          have hF := fin9 0 0 0 0 0 0 0 0 0 (g := g) (B := B) (w00 := w) HK3.out HR3.out hgw HB3.out (by omega) HF3.out (Nat.le_refl _)
          refine bodyPost_ret (results_ct rfl _ _ w.heap.size 23 _ (0, 0) _ rfl hF.heap Try.underlying23 rfl (by kernel_rfl)) rfl ⟨?_, hF.rd, hF.below, hF.far⟩
          unfold resP; rw [if_neg (by omega), if_pos cw]; rfl
        · have cwb : wrS s 9 = false := by simpa using cw
          have hk3 := HK3.out
          unfold polS polA at hk3
          obtain ⟨h0, h1, h2, h3, h4, h5, h6, h7, h8⟩ := cells9 hk3
          have f0 := blk_frozen hk3 0
          have f1 := blk_frozen hk3 1
          have f2 := blk_frozen hk3 2
          have f3 := blk_frozen hk3 3
          have f4 := blk_frozen hk3 4
          have f5 := blk_frozen hk3 5
          have f6 := blk_frozen hk3 6
          have f7 := blk_frozen hk3 7
          have f8 := blk_frozen hk3 8
          clear hk3
          go_wp2_with fail
          refine (policy_Check.calls (cvS s 9 0) (cvS s 9 1) (cvS s 9 2) (cvS s 9 3) (cvS s 9 4) (cvS s 9 5) (cvS s 9 6) (cvS s 9 7) (cvS s 9 8) (polC s) w3 rfl).mono ?_
          rintro e w4 ⟨rfl, hb4⟩
          have HR4 := Aside0.mk (HR3.out.below hb4)
          have HB4 := Aside0.mk (HB3.out.trans (hb4.mono (by have := HF3.out.size; omega)))
          have HF4 := Aside0.mk (HF3.out.trans (Far.below hb4 (fun _ => False)) (fun _ _ h => h.elim))
          have hk4 := blk_below HK3.out hb4
          have HK4 := Aside0.mk hk4
          clear hb4 HR3 HB3 HF3 HK3 h0 h1 h2 h3 h4 h5 h6 h7 h8 f0 f1 f2 f3 f4 f5 f6 f7 f8
          unfold polS polA at hk4
          obtain ⟨h0, h1, h2, h3, h4, h5, h6, h7, h8⟩ := cells9 hk4
          have f0 := blk_frozen hk4 0
          have f1 := blk_frozen hk4 1
          have f2 := blk_frozen hk4 2
          have f3 := blk_frozen hk4 3
          have f4 := blk_frozen hk4 4
          have f5 := blk_frozen hk4 5
          have f6 := blk_frozen hk4 6
          have f7 := blk_frozen hk4 7
          have f8 := blk_frozen hk4 8
          clear hk4
          by_cases cc : polC s = 0
          · have ccb : (polC s != 0) = false := bne_eq_false_iff_eq.mpr cc
            go_wp2
            have hF := fin9 (cvS s 9 0) (cvS s 9 1) (cvS s 9 2) (cvS s 9 3) (cvS s 9 4) (cvS s 9 5) (cvS s 9 6) (cvS s 9 7) (cvS s 9 8) (g := g) (B := B) (w00 := w) HK4.out HR4.out hgw HB4.out (by omega) HF4.out (Nat.le_refl _)
            refine bodyPost_ret (results_ct rfl _ _ w.heap.size 23 _ (0, 0) _ rfl hF.heap Try.underlying23 rfl (by kernel_rfl)) rfl ⟨?_, hF.rd, hF.below, hF.far⟩
            unfold resP; rw [if_neg (by omega), if_neg cw, if_pos cc]; rfl
          · have ccb : (polC s != 0) = true := bne_iff_ne.mpr cc
            go_wp2
            have hF := fin9 0 0 0 0 0 0 0 0 0 (g := g) (B := B) (w00 := w) HK4.out HR4.out hgw HB4.out (by omega) HF4.out (Nat.le_refl _)
            refine bodyPost_ret (results_ct rfl _ _ w.heap.size 23 _ (0, 0) _ rfl hF.heap Try.underlying23 rfl (by kernel_rfl)) rfl ⟨?_, hF.rd, hF.below, hF.far⟩
            unfold resP; rw [if_neg (by omega), if_neg cw, if_neg cc]; rfl
      · have cfb : ((stS s 9).2 != 0) = true := bne_iff_ne.mpr cf
        go_wp2_with fail
        refine (Fault.calls g _ _ _ HR3.out).mono ?_
        rintro e w4 ⟨rfl, hb4⟩
        have HR4 := Aside0.mk (HR3.out.below hb4)
        have HB4 := Aside0.mk (HB3.out.trans (hb4.mono (by have := HF3.out.size; omega)))
        have HF4 := Aside0.mk (HF3.out.trans (Far.below hb4 (fun _ => False)) (fun _ _ h => h.elim))
        have hk4 := blk_below HK3.out hb4
        have HK4 := Aside0.mk hk4
        clear hb4 HR3 HB3 HF3 HK3
        unfold polS polA at hk4
        obtain ⟨h0, h1, h2, h3, h4, h5, h6, h7, h8⟩ := cells9 hk4
        have f0 := blk_frozen hk4 0
        have f1 := blk_frozen hk4 1
        have f2 := blk_frozen hk4 2
        have f3 := blk_frozen hk4 3
        have f4 := blk_frozen hk4 4
        have f5 := blk_frozen hk4 5
        have f6 := blk_frozen hk4 6
        have f7 := blk_frozen hk4 7
        have f8 := blk_frozen hk4 8
        clear hk4
        go_wp2
        have hF := fin9 0 0 0 0 0 0 0 0 0 (g := g) (B := B) (w00 := w) HK4.out HR4.out hgw HB4.out (by omega) HF4.out (Nat.le_refl _)
        refine bodyPost_ret (results_ct rfl _ _ w.heap.size 23 _ (0, 0) _ rfl hF.heap Try.underlying23 rfl (by kernel_rfl)) rfl ⟨?_, hF.rd, hF.below, hF.far⟩
        unfold resP; rw [if_pos cf]; rfl
end Wr
end Go.Proofs.Ytjegkfdcelodeaa.P
