import Derived.Test.YtiokjjadpobciaaDr8
import Derived.Test.YtiokjjadpobciaaDr3
import Derived.Deep.MidRow
namespace Go.Proofs.Ytiokjjadpobciaa.P
open Go.RowKit Go.Conc Go.Proofs.YtiokjjadpobciaaW.PrintWords Go.Proofs.YtiokjjadpobciaaW.PrintLast Go.Proofs.YtiokjjadpobciaaW.PrintMore
attribute [local go_sem] max2_int min2_int max_two min_two max_three min_three max_four min_four
set_option linter.unusedVariables false
set_option linter.unusedSimpArgs false
namespace Dr
open Ln
/-- Steps that lie in a block from its start on. -/
def RowS (w : World) (g : Nat) (l : List Sx) : Prop := ∀ (i : Nat) (h : i < l.length), ∃ Af cf Al cl, Kd.C factK w Af l[i].fs.length l[i].fs ∧ Kd.C Kd.bool w Al l[i].fl.length l[i].fl ∧ w.rangeAt g (i * 27) (stepC l[i] (.slice Af l[i].fs.length cf) (.slice Al l[i].fl.length cl))
theorem rangeAt_below {w w' : World} {g o : Nat} {cs : List Value} (h : w.rangeAt g o cs) (hg : g < w.heap.size) (hb : Below w.heap.size w w') : w'.rangeAt g o cs := fun j v hj => (Below.cell hb (p := ⟨g, o + j, none⟩) hg).trans (h j v hj)
theorem RowS.below {w w' : World} {g : Nat} {l : List Sx} (h : RowS w g l) (hg : g < w.heap.size) (hb : Below w.heap.size w w') : RowS w' g l := by
  intro i hi
  obtain ⟨Af, cf, Al, cl, h1, h2, h3⟩ := h i hi
  exact ⟨Af, cf, Al, cl, Kd.C_below h1 hb, Kd.C_below h2 hb, rangeAt_below h3 hg hb⟩
theorem stepC_len (x : Sx) (a b : Value) : (stepC x a b).length = 27 := rfl
theorem stepC_one (x : Sx) (A B : Option Addr) (n m c e : Nat) : ∀ u ∈ stepC x (.slice A n c) (.slice B m e), u.oneCell' = true := by
  intro u hu
  simp [stepC, midL] at hu
  rcases hu with rfl | rfl | rfl | rfl | rfl | rfl | rfl | rfl | rfl | rfl <;> rfl
theorem info66s : (Try.prog.info? 66).map (·.size) = some 27 := by kernel_rfl
theorem clo.calls (x : Sx) (A1 A2 B1 B2 : Option Addr) (c1 c2 e1 e2 : Nat) (w : World) (hf1 : Kd.C factK w A1 x.fs.length x.fs) (hf2 : Kd.C factK w A2 x.fs.length x.fs) (hb1 : Kd.C Kd.bool w B1 x.fl.length x.fl) (hb2 : Kd.C Kd.bool w B2 x.fl.length x.fl) (hl : x.fs.length ≤ 100000) (hm : x.fl.length ≤ 100000) :
    Calls Try.prog 39 #[.agg (stepC x (.slice A1 x.fs.length c1) (.slice B1 x.fl.length e1)).toArray, .agg (stepC x (.slice A2 x.fs.length c2) (.slice B2 x.fl.length e2)).toArray] w fun e w' => e = .returned (.bool true) ∧ Below w.heap.size w w' := by
  obtain ⟨k, n, fs, q, fl⟩ := x
  cases q
  · exact clo_plain.calls k n fs fl A1 A2 B1 B2 c1 c2 e1 e2 w hf1 hf2 hb1 hb2 hl hm
  · exact clo_query.calls k n fs fl A1 A2 B1 B2 c1 c2 e1 e2 w hf1 hf2 hb1 hb2 hl hm
/-- Short rows all through. -/
def short (l : List Sx) : Prop := ∀ x ∈ l, x.fs.length ≤ 100000 ∧ x.fl.length ≤ 100000
set_option maxHeartbeats 8000000 in
set_option maxRecDepth 100000 in
theorem EqualFunc.calls (ga gb c1 c2 : Nat) (l : List Sx) (w : World) (hga : ga < w.heap.size) (hgb : gb < w.heap.size) (h1 : RowS w ga l) (h2 : RowS w gb l) (hl : l.length ≤ 100000) (hs : short l) :
    Calls Try.prog 38 #[.slice (some ⟨ga, 0, none⟩) l.length c1, .slice (some ⟨gb, 0, none⟩) l.length c2, .func (.func 39) #[] #[]] w fun e w' => e = .returned (.bool true) ∧ Below w.heap.size w w' := by
  have H1 := Aside0.mk h1
  have H2 := Aside0.mk h2
  have HS := Aside0.mk hs
  have HG := Aside0.mk (⟨hga, hgb⟩ : ga < w.heap.size ∧ gb < w.heap.size)
  clear h1 h2 hs hga hgb
  go_enter Try.func38, Try.ntmps38
  go_wp2
  go_loopw [7, 8, 9, 17] (fun x7 x8 x9 x17 wr => ∃ i : Nat, x17 = .int .i64 i ∧ i ≤ l.length ∧ Aside0 (Below w.heap.size w wr)) (fun _ _ _ x17 _ => l.length - (intOf x17).toNat)
  case atStart => exact ⟨0, rfl, by omega, ⟨Below.refl _ _⟩⟩
  case round =>
    obtain ⟨i, rfl, hi, HB⟩ := hrel
    by_cases d : i < l.length
    · have dl : decide ((i : Int) < (l.length : Int)) = true := decide_eq_true (by omega)
      have b1 : (0 : Int) ≤ (i : Int) := by omega
      have b2 : (i : Int) < (l.length : Int) := by omega
      have hw : wrap64 ((i : Int) + 1) = ((i + 1 : Nat) : Int) := by unfold wrap64; omega
      obtain ⟨A1, c1, B1, e1, hf1, hb1, hr1⟩ := (H1.out.below HG.out.1 HB.out) i d
      obtain ⟨A2, c2, B2, e2, hf2, hb2, hr2⟩ := (H2.out.below HG.out.2 HB.out) i d
      obtain ⟨hs1, hs2⟩ := HS.out l[i] (List.getElem_mem d)
      generalize l[i] = x at hf1 hb1 hr1 hf2 hb2 hr2 hs1 hs2
      have hgb2 : gb < wr.heap.size := by have := HG.out.2; have := HB.out.size; omega
      have hC := clo.calls x A1 A2 B1 B2 c1 c2 e1 e2
      have o1 := stepC_one x A1 B1 x.fs.length x.fl.length c1 e1
      have o2 := stepC_one x A2 B2 x.fs.length x.fl.length c2 e2
      have l1 := stepC_len x (.slice A1 x.fs.length c1) (.slice B1 x.fl.length e1)
      have l2 := stepC_len x (.slice A2 x.fs.length c2) (.slice B2 x.fl.length e2)
      generalize stepC x (.slice A1 x.fs.length c1) (.slice B1 x.fl.length e1) = cs1 at hr1 hC o1 l1
      generalize stepC x (.slice A2 x.fs.length c2) (.slice B2 x.fl.length e2) = cs2 at hr2 hC o2 l2
      have R1 := Aside0.mk hr1
      have hb := (Below.refl wr.heap.size wr).alloc (Nat.le_refl _) (.cells cs1.toArray 66 (0, 0))
      have R2 := Aside0.mk (rangeAt_below hr2 hgb2 hb)
      have hbb := hb.alloc (by simp) (.cells cs2.toArray 66 (0, 0))
      have R3 := Aside0.mk (show ((wr.alloc (.cells cs1.toArray 66 (0, 0))).alloc (.cells cs2.toArray 66 (0, 0))).rangeAt wr.heap.size 0 cs1 from fun j v hj => by rw [blk_cell (blk_alloc (blk_new wr (.cells cs1.toArray 66 (0, 0))) (.cells cs2.toArray 66 (0, 0)))]; simpa using hj)
      have R4 := Aside0.mk (show ((wr.alloc (.cells cs1.toArray 66 (0, 0))).alloc (.cells cs2.toArray 66 (0, 0))).rangeAt (wr.heap.size + 1) 0 cs2 from fun j v hj => by rw [blk_cell (show ((wr.alloc (.cells cs1.toArray 66 (0, 0))).alloc (.cells cs2.toArray 66 (0, 0))).heap[wr.heap.size + 1]? = some (.cells cs2.toArray 66 (0, 0)) by simpa using blk_new (wr.alloc (.cells cs1.toArray 66 (0, 0))) (.cells cs2.toArray 66 (0, 0)))]; simpa using hj)
      have L1 := Aside0.mk (show (Try.prog.info? 66).map (·.size) = some cs1.length by rw [info66s, l1])
      have L2 := Aside0.mk (show (Try.prog.info? 66).map (·.size) = some cs2.length by rw [info66s, l2])
      have hz1 := fun (W : World) => run_storeCells_new (P := Try.prog) W 66 #[.int .i64 0, .int .i64 0, .slice none 0 0, .int .i64 0, .int .i64 0, .bool false, .bool false, .bool false, .bool false, .bool false, .bool false, .bool false, .bool false, .string { data := #[] }, .string { data := #[] }, .string { data := #[] }, .string { data := #[] }, .int .i64 0, .int .i64 0, .int .i64 0, .int .i64 0, .int .i64 0, .int .i64 0, .int .i64 0, .int .i64 0, .int .i64 0, .slice none 0 0] cs1.toArray (by kernel_rfl) (by simp [l1]) (by simpa using o1)
      have hz2 := fun (W : World) => run_storeCells_new (P := Try.prog) W 66 #[.int .i64 0, .int .i64 0, .slice none 0 0, .int .i64 0, .int .i64 0, .bool false, .bool false, .bool false, .bool false, .bool false, .bool false, .bool false, .bool false, .string { data := #[] }, .string { data := #[] }, .string { data := #[] }, .string { data := #[] }, .int .i64 0, .int .i64 0, .int .i64 0, .int .i64 0, .int .i64 0, .int .i64 0, .int .i64 0, .int .i64 0, .int .i64 0, .slice none 0 0] cs2.toArray (by kernel_rfl) (by simp [l2]) (by simpa using o2)
      have hz3 := hz2 (wr.alloc (.cells cs1.toArray 66 (0, 0)))
      rw [show (wr.alloc (.cells cs1.toArray 66 (0, 0))).heap.size = wr.heap.size + 1 by simp] at hz3
      have HF1 := Aside0.mk (Kd.C_below hf1 hbb)
      have HF2 := Aside0.mk (Kd.C_below hf2 hbb)
      have HL1 := Aside0.mk (Kd.C_below hb1 hbb)
      have HL2 := Aside0.mk (Kd.C_below hb2 hbb)
      have HB2 := Aside0.mk (below_step HB.out hbb)
      have HS1 := Aside0.mk hs1
      have HS2 := Aside0.mk hs2
      have HC := Aside0.mk hC
      clear hf1 hf2 hb1 hb2 hb hbb HB hs1 hs2 hC hr1 hr2 o1 o2 hgb2
      go_wp2_with (first | (refine wpList_load_mid rfl 66 (.tmp 20) rfl ga (i * 27) rfl cs1 _ R1.out Try.underlying66 rfl L1.out ?_) | (refine wpList_load_mid rfl 66 (.tmp 24) rfl gb (i * 27) rfl cs2 _ R2.out Try.underlying66 rfl L2.out ?_) | (refine wpList_load_mid rfl 66 (.tmp 8) rfl wr.heap.size 0 rfl cs1 _ R3.out Try.underlying66 rfl L1.out ?_) | (refine wpList_load_mid rfl 66 (.tmp 9) rfl (wr.heap.size + 1) 0 rfl cs2 _ R4.out Try.underlying66 rfl L2.out ?_))
      refine (HC.out _ HF1.out HF2.out HL1.out HL2.out HS1.out HS2.out).mono ?_
      rintro e w9 ⟨rfl, hb⟩
      have HB3 := Aside0.mk (below_step HB2.out hb)
      clear hb HB2 hz1 hz2 hz3 l1 l2 HF1 HF2 HL1 HL2 R1 R2 R3 R4 L1 L2
      go_wp2
      go_roundw
      case rel => exact ⟨i + 1, rfl, by omega, HB3⟩
      case measure => simp only [intOf]; omega
    · have hil : i = l.length := by omega
      have dl : decide ((i : Int) < (l.length : Int)) = false := decide_eq_false (by omega)
      go_wp2
      go_ret
      exact ⟨rfl, HB.out⟩
end Dr
end Go.Proofs.Ytiokjjadpobciaa.P
