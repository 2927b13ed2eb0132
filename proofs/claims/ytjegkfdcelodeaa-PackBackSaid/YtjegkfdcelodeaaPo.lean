import Derived.Test.YtjegkfdcelodeaaPb
import Derived.Test.YtjegkfdcelodeaaLw5
namespace Go.Proofs.Ytjegkfdcelodeaa.P
open Go.RowKit Go.Proofs.Ytjegkfdcelodeaa.Pol Go.Proofs.YtjegkfdcelodeaaW.PrintWords Go.Proofs.YtjegkfdcelodeaaW.PrintLast Go.Proofs.YtjegkfdcelodeaaW.PrintMore
attribute [local go_sem] max2_int min2_int max_two min_two max_three min_three max_four min_four
set_option linter.unusedVariables false
set_option linter.unusedSimpArgs false
namespace Wr
/-- A row of bytes is no reader's block. -/
theorem no_reader {w : World} {g : Nat} {A : Option Addr} {c : Nat} {l l2 : List Int} {f : Int} (hC : Kd.C (Kd.int .u8) w A l.length l) (hR : RdP g l2 f w) : ∀ ad, A = some ad → 0 < l.length → ad.block ≠ g := by
  intro ad e hp hb
  subst e
  obtain ⟨ad', he, hcell⟩ := Kd.at_int hC 0 (by omega) (by omega)
  obtain rfl := Option.some.inj he
  obtain ⟨A2, c2, hS⟩ := hR
  have hblk := hS.blk
  obtain ⟨b, o, sp⟩ := ad
  simp only at hb
  subst hb
  simp only [World.cell?] at hcell
  have e0 : ((⟨b, o, sp⟩ : Addr).add (0 : Int).toNat) = ⟨b, o, sp⟩ := by unfold Addr.add; split <;> simp_all
  rw [e0, hblk] at hcell
  simp only at hcell
  split at hcell
  · exact absurd hcell (by simp)
  · rcases o with _ | _ | o
    · simp at hcell
    · simp at hcell
    · simp at hcell
theorem XdP.far2 {x g : Nat} {l l2 : List Int} {f f2 : Int} {w w' : World} (h : XdP x l f w) (hR : RdP g l2 f2 w) (hf : Far w w' (fun k => k = g)) (hx : ¬ x = g) : XdP x l f w' := by
  obtain ⟨A, c, hS⟩ := h
  exact ⟨A, c, hS.far hf hx (no_reader (c := c) hS.row hR)⟩
set_option maxHeartbeats 8000000 in
set_option maxRecDepth 100000 in
theorem one1.calls (B g x : Nat) (s t : List Int × Int) (m n i : Int) (u : ByteArray) (b : Bool) (w0 w : World) (hl : ∀ y ∈ s.1, 0 ≤ y ∧ y < 256) (hk : ∀ y ∈ t.1, 0 ≤ y ∧ y < 256) (hm : m = 60) (hB : Below B w0 w) (hg : B ≤ g) (hgx : g < x) (hR : RdP g s.1 s.2 w) (hX : XdP x t.1 t.2 w) :
    Calls Try.prog 54 #[.pointer (some ⟨g, 0, none⟩), .pointer (some ⟨x, 0, none⟩), .agg #[.int .i64 1, .int .i64 m, .int .u64 n, .int .i64 i, .string u, .bool b]] w fun e w' => (∃ r : Bool, e = .returned (.bool r)) ∧ RdP g (stepS 1 60 s).1 (stepS 1 60 s).2 w' ∧ XdP x (stepS 1 60 t).1 (stepS 1 60 t).2 w' ∧ Below B w0 w' ∧ Far w w' (fun k => k = g ∨ k = x) := by
  subst hm
  have hxw : x < w.heap.size := by obtain ⟨_, _, h⟩ := hX; exact blk_lt h.blk
  have HB1 := Aside0.mk (show Below w.heap.size w (w.alloc (.cells #[.int .i64 1, .int .i64 60, .int .u64 n, .int .i64 i, .string u, .bool b] 52 (0, 0))) from (Below.refl _ w).alloc (Nat.le_refl _) _)
  have HR := Aside0.mk (hR.below HB1.out)
  have HX := Aside0.mk (hX.below HB1.out)
  have HB := Aside0.mk (show Below B w0 (w.alloc (.cells #[.int .i64 1, .int .i64 60, .int .u64 n, .int .i64 i, .string u, .bool b] 52 (0, 0))) from hB.alloc (by omega) _)
  have HF := Aside0.mk (Far.below HB1.out (fun k => k = g ∨ k = x))
  have HK := Aside0.mk (show (w.alloc (.cells #[.int .i64 1, .int .i64 60, .int .u64 n, .int .i64 i, .string u, .bool b] 52 (0, 0))).heap[w.heap.size]? = some (.cells #[.int .i64 1, .int .i64 60, .int .u64 n, .int .i64 i, .string u, .bool b] 52 (0, 0)) from blk_new w _)
  clear hB hR hX
  have hc0 : (w.alloc (.cells #[.int .i64 1, .int .i64 60, .int .u64 n, .int .i64 i, .string u, .bool b] 52 (0, 0))).cell? ⟨w.heap.size, 0, none⟩ = some (.int .i64 1) := blk_cell HK.out 0
  go_enter Try.func54, Try.ntmps54
  go_wp2_with fail
  clear hc0
  refine (RNumS.calls B g s w0 _ hl HB.out hg HR.out).mono ?_
  rintro e w1 ⟨rfl, hr, hb, hf⟩
  have HR1 := Aside0.mk hr
  have HX1 := Aside0.mk (HX.out.far2 HR.out hf (by omega))
  have HB2 := Aside0.mk hb
  have HF1 := Aside0.mk (HF.out.trans hf (fun _ _ h => .inl h))
  clear hr hb hf HR HX HB HF HK HB1
  go_wp2_with fail
  refine (XNumS.calls B x t w0 w1 hk HB2.out (by omega) HX1.out).mono ?_
  rintro e w2 ⟨rfl, hx, hb, hf⟩
  have HX2 := Aside0.mk hx
  have HR2 := Aside0.mk (HR1.out.far hf hgx)
  have HB3 := Aside0.mk hb
  have HF2 := Aside0.mk (HF1.out.trans hf (fun _ _ h => .inr h))
  clear hx hb hf HR1 HX1 HB2 HF1
  go_wp2
  go_ret
  exact ⟨⟨_, rfl⟩, HR2.out, HX2.out, HB3.out, HF2.out⟩
set_option maxHeartbeats 8000000 in
set_option maxRecDepth 100000 in
theorem one2.calls (B g x : Nat) (s t : List Int × Int) (m n i : Int) (u : ByteArray) (b : Bool) (w0 w : World) (hl : ∀ y ∈ s.1, 0 ≤ y ∧ y < 256) (hk : ∀ y ∈ t.1, 0 ≤ y ∧ y < 256) (hm : m = 60) (hB : Below B w0 w) (hg : B ≤ g) (hgx : g < x) (hR : RdP g s.1 s.2 w) (hX : XdP x t.1 t.2 w) :
    Calls Try.prog 54 #[.pointer (some ⟨g, 0, none⟩), .pointer (some ⟨x, 0, none⟩), .agg #[.int .i64 2, .int .i64 m, .int .u64 n, .int .i64 i, .string u, .bool b]] w fun e w' => (∃ r : Bool, e = .returned (.bool r)) ∧ RdP g (stepS 2 60 s).1 (stepS 2 60 s).2 w' ∧ XdP x (stepS 2 60 t).1 (stepS 2 60 t).2 w' ∧ Below B w0 w' ∧ Far w w' (fun k => k = g ∨ k = x) := by
  subst hm
  have hxw : x < w.heap.size := by obtain ⟨_, _, h⟩ := hX; exact blk_lt h.blk
  have HB1 := Aside0.mk (show Below w.heap.size w (w.alloc (.cells #[.int .i64 2, .int .i64 60, .int .u64 n, .int .i64 i, .string u, .bool b] 52 (0, 0))) from (Below.refl _ w).alloc (Nat.le_refl _) _)
  have HR := Aside0.mk (hR.below HB1.out)
  have HX := Aside0.mk (hX.below HB1.out)
  have HB := Aside0.mk (show Below B w0 (w.alloc (.cells #[.int .i64 2, .int .i64 60, .int .u64 n, .int .i64 i, .string u, .bool b] 52 (0, 0))) from hB.alloc (by omega) _)
  have HF := Aside0.mk (Far.below HB1.out (fun k => k = g ∨ k = x))
  have HK := Aside0.mk (show (w.alloc (.cells #[.int .i64 2, .int .i64 60, .int .u64 n, .int .i64 i, .string u, .bool b] 52 (0, 0))).heap[w.heap.size]? = some (.cells #[.int .i64 2, .int .i64 60, .int .u64 n, .int .i64 i, .string u, .bool b] 52 (0, 0)) from blk_new w _)
  clear hB hR hX
  have hc0 : (w.alloc (.cells #[.int .i64 2, .int .i64 60, .int .u64 n, .int .i64 i, .string u, .bool b] 52 (0, 0))).cell? ⟨w.heap.size, 0, none⟩ = some (.int .i64 2) := blk_cell HK.out 0
  go_enter Try.func54, Try.ntmps54
  go_wp2_with fail
  clear hc0
  refine (RIntS.calls B g s w0 _ hl HB.out hg HR.out).mono ?_
  rintro e w1 ⟨rfl, hr, hb, hf⟩
  have HR1 := Aside0.mk hr
  have HX1 := Aside0.mk (HX.out.far2 HR.out hf (by omega))
  have HB2 := Aside0.mk hb
  have HF1 := Aside0.mk (HF.out.trans hf (fun _ _ h => .inl h))
  clear hr hb hf HR HX HB HF HK HB1
  go_wp2_with fail
  refine (XIntS.calls B x t w0 w1 hk HB2.out (by omega) HX1.out).mono ?_
  rintro e w2 ⟨rfl, hx, hb, hf⟩
  have HX2 := Aside0.mk hx
  have HR2 := Aside0.mk (HR1.out.far hf hgx)
  have HB3 := Aside0.mk hb
  have HF2 := Aside0.mk (HF1.out.trans hf (fun _ _ h => .inr h))
  clear hx hb hf HR1 HX1 HB2 HF1
  go_wp2
  go_ret
  exact ⟨⟨_, rfl⟩, HR2.out, HX2.out, HB3.out, HF2.out⟩
set_option maxHeartbeats 8000000 in
set_option maxRecDepth 100000 in
theorem one4.calls (B g x : Nat) (s t : List Int × Int) (m n i : Int) (u : ByteArray) (b : Bool) (w0 w : World) (hl : ∀ y ∈ s.1, 0 ≤ y ∧ y < 256) (hk : ∀ y ∈ t.1, 0 ≤ y ∧ y < 256) (hm : m = 60) (hB : Below B w0 w) (hg : B ≤ g) (hgx : g < x) (hR : RdP g s.1 s.2 w) (hX : XdP x t.1 t.2 w) :
    Calls Try.prog 54 #[.pointer (some ⟨g, 0, none⟩), .pointer (some ⟨x, 0, none⟩), .agg #[.int .i64 4, .int .i64 m, .int .u64 n, .int .i64 i, .string u, .bool b]] w fun e w' => (∃ r : Bool, e = .returned (.bool r)) ∧ RdP g (stepS 4 60 s).1 (stepS 4 60 s).2 w' ∧ XdP x (stepS 4 60 t).1 (stepS 4 60 t).2 w' ∧ Below B w0 w' ∧ Far w w' (fun k => k = g ∨ k = x) := by
  subst hm
  have hxw : x < w.heap.size := by obtain ⟨_, _, h⟩ := hX; exact blk_lt h.blk
  have HB1 := Aside0.mk (show Below w.heap.size w (w.alloc (.cells #[.int .i64 4, .int .i64 60, .int .u64 n, .int .i64 i, .string u, .bool b] 52 (0, 0))) from (Below.refl _ w).alloc (Nat.le_refl _) _)
  have HR := Aside0.mk (hR.below HB1.out)
  have HX := Aside0.mk (hX.below HB1.out)
  have HB := Aside0.mk (show Below B w0 (w.alloc (.cells #[.int .i64 4, .int .i64 60, .int .u64 n, .int .i64 i, .string u, .bool b] 52 (0, 0))) from hB.alloc (by omega) _)
  have HF := Aside0.mk (Far.below HB1.out (fun k => k = g ∨ k = x))
  have HK := Aside0.mk (show (w.alloc (.cells #[.int .i64 4, .int .i64 60, .int .u64 n, .int .i64 i, .string u, .bool b] 52 (0, 0))).heap[w.heap.size]? = some (.cells #[.int .i64 4, .int .i64 60, .int .u64 n, .int .i64 i, .string u, .bool b] 52 (0, 0)) from blk_new w _)
  clear hB hR hX
  have hc0 : (w.alloc (.cells #[.int .i64 4, .int .i64 60, .int .u64 n, .int .i64 i, .string u, .bool b] 52 (0, 0))).cell? ⟨w.heap.size, 0, none⟩ = some (.int .i64 4) := blk_cell HK.out 0
  go_enter Try.func54, Try.ntmps54
  go_wp2_with fail
  clear hc0
  refine (RBoolS.calls B g s w0 _ HB.out hg HR.out).mono ?_
  rintro e w1 ⟨rfl, hr, hb, hf⟩
  have HR1 := Aside0.mk hr
  have HX1 := Aside0.mk (HX.out.far2 HR.out hf (by omega))
  have HB2 := Aside0.mk hb
  have HF1 := Aside0.mk (HF.out.trans hf (fun _ _ h => .inl h))
  clear hr hb hf HR HX HB HF HK HB1
  go_wp2_with fail
  refine (XBoolS.calls B x t w0 w1 hk HB2.out (by omega) HX1.out).mono ?_
  rintro e w2 ⟨rfl, hx, hb, hf⟩
  have HX2 := Aside0.mk hx
  have HR2 := Aside0.mk (HR1.out.far hf hgx)
  have HB3 := Aside0.mk hb
  have HF2 := Aside0.mk (HF1.out.trans hf (fun _ _ h => .inr h))
  clear hx hb hf HR1 HX1 HB2 HF1
  go_wp2
  go_ret
  exact ⟨⟨_, rfl⟩, HR2.out, HX2.out, HB3.out, HF2.out⟩
def p1.T7 : Bool × List (List Nat × List Nat) := (true, [([], []), ([], []), ([1], [1]), ([0, 2], [0, 2]), ([], []), ([], []), ([5], [5]), ([4, 6, 3], [4, 6]), ([3, 7], [3, 7]), ([8, 7, 0, 1, 2, 3, 4, 5, 6, 7, 8], [8])])
def p1.B7 : List Nat := [0, 0, 2, 7, 0, 0, 32, 127, 255, 511]
theorem p1.tab7 : rtab .any (opsOf Try.f54 7) = p1.T7 := by kernel_rfl
theorem p1.bits7 : waitsOk p1.T7.2 p1.B7 = true := by kernel_rfl
set_option maxHeartbeats 8000000 in
set_option maxRecDepth 100000 in
theorem one3.calls (B g x : Nat) (s t : List Int × Int) (m n i : Int) (u : ByteArray) (b : Bool) (w0 w : World) (hl : ∀ y ∈ s.1, 0 ≤ y ∧ y < 256) (hk : ∀ y ∈ t.1, 0 ≤ y ∧ y < 256) (hm : m = 60) (hB : Below B w0 w) (hg : B ≤ g) (hgx : g < x) (hR : RdP g s.1 s.2 w) (hX : XdP x t.1 t.2 w) :
    Calls Try.prog 54 #[.pointer (some ⟨g, 0, none⟩), .pointer (some ⟨x, 0, none⟩), .agg #[.int .i64 3, .int .i64 m, .int .u64 n, .int .i64 i, .string u, .bool b]] w fun e w' => (∃ r : Bool, e = .returned (.bool r)) ∧ RdP g (stepS 3 60 s).1 (stepS 3 60 s).2 w' ∧ XdP x (stepS 3 60 t).1 (stepS 3 60 t).2 w' ∧ Below B w0 w' ∧ Far w w' (fun k => k = g ∨ k = x) := by
  subst hm
  have hxw : x < w.heap.size := by obtain ⟨_, _, h⟩ := hX; exact blk_lt h.blk
  have HB1 := Aside0.mk (show Below w.heap.size w (w.alloc (.cells #[.int .i64 3, .int .i64 60, .int .u64 n, .int .i64 i, .string u, .bool b] 52 (0, 0))) from (Below.refl _ w).alloc (Nat.le_refl _) _)
  have HR := Aside0.mk (hR.below HB1.out)
  have HX := Aside0.mk (hX.below HB1.out)
  have HB := Aside0.mk (show Below B w0 (w.alloc (.cells #[.int .i64 3, .int .i64 60, .int .u64 n, .int .i64 i, .string u, .bool b] 52 (0, 0))) from hB.alloc (by omega) _)
  have HF := Aside0.mk (Far.below HB1.out (fun k => k = g ∨ k = x))
  have HK := Aside0.mk (show (w.alloc (.cells #[.int .i64 3, .int .i64 60, .int .u64 n, .int .i64 i, .string u, .bool b] 52 (0, 0))).heap[w.heap.size]? = some (.cells #[.int .i64 3, .int .i64 60, .int .u64 n, .int .i64 i, .string u, .bool b] 52 (0, 0)) from blk_new w _)
  clear hB hR hX
  have hc0 : (w.alloc (.cells #[.int .i64 3, .int .i64 60, .int .u64 n, .int .i64 i, .string u, .bool b] 52 (0, 0))).cell? ⟨w.heap.size, 0, none⟩ = some (.int .i64 3) := blk_cell HK.out 0
  go_enter Try.func54, Try.ntmps54
  go_wp2_with fail
  have HR' := Aside0.mk (HR.out.below (below_drew1 (Below.refl _ _)))
  have HX' := Aside0.mk (HX.out.below (below_drew1 (Below.refl _ _)))
  have HB' := Aside0.mk (below_drew1 HB.out)
  have HF' := Aside0.mk (HF.out.trans (Far.below (below_drew1 (Below.refl _ _)) (fun k => k = g ∨ k = x)) (fun _ _ h => h))
  have HK' := Aside0.mk (blk_drew HK.out)
  clear hc0 HR HX HB HF HK
  have HR := HR'
  have HX := HX'
  have HB := HB'
  have HF := HF'
  have HK := HK'
  clear HR' HX' HB' HF' HK'
  refine start_ (n := 10) (S := fun w' => w'.cell? ⟨w.heap.size, 1, none⟩ = some (.int .i64 60)) (ds := []) #[false, false, false, false, false, false, false, false, false, false] (by kernel_rfl) rfl rfl (blk_cell HK.out 1) (fun hHeld => ?_)
  refine with_tabW p1.tab7 p1.bits7 (fun HT_ HW_ => ?_)
  generalize hW : (w.alloc (.cells #[.int .i64 3, .int .i64 60, .int .u64 n, .int .i64 i, .string u, .bool b] 52 (0, 0))).drew = W at HR HX HB HF HK hHeld ⊢
  clear hW
  refine pure_ (i := 0) (N := some 25) (v := ?_) (a' := ?_) #[true, false, false, false, false, false, false, false, false, false] rfl rfl (any_of HT_.out (by kernel_rfl)) (fun _ _ _ h => h) (Or.inl ⟨by rfl, ?_⟩) ?_ ?_
  rotate_left
  · intro w'
    go_simp
    with_reducible rfl
  rotate_left
  · simp only [Act.put, List.setIfInBounds_toArray, List.set_cons_zero, List.set_cons_succ, i64_w, i32_w]
    rfl
  refine pure_ (i := 1) (N := some 26) (v := ?_) (a' := ?_) #[true, true, false, false, false, false, false, false, false, false] rfl rfl (any_of HT_.out (by kernel_rfl)) (fun _ _ _ h => h) (Or.inl ⟨by rfl, ?_⟩) ?_ ?_
  rotate_left
  · intro w'
    go_simp
    with_reducible rfl
  rotate_left
  · simp only [Act.put, List.setIfInBounds_toArray, List.set_cons_zero, List.set_cons_succ, i64_w, i32_w]
    rfl
  refine pure_ (i := 4) (N := some 29) (v := ?_) (a' := ?_) #[true, true, false, false, true, false, false, false, false, false] rfl rfl (any_of HT_.out (by kernel_rfl)) (fun _ _ _ h => h) (Or.inl ⟨by rfl, ?_⟩) ?_ ?_
  rotate_left
  · intro w'
    go_simp
    with_reducible rfl
  rotate_left
  · simp only [Act.put, List.setIfInBounds_toArray, List.set_cons_zero, List.set_cons_succ, i64_w, i32_w]
    rfl
  refine pure_ (i := 5) (N := some 30) (v := ?_) (a' := ?_) #[true, true, false, false, true, true, false, false, false, false] rfl rfl (any_of HT_.out (by kernel_rfl)) (fun _ _ _ h => h) (Or.inl ⟨by rfl, ?_⟩) ?_ ?_
  rotate_left
  · intro w'
    go_simp
    with_reducible rfl
  rotate_left
  · simp only [Act.put, List.setIfInBounds_toArray, List.set_cons_zero, List.set_cons_succ, i64_w, i32_w]
    rfl
  refine take_ (i := 2) (N := some 27) (v := ?_) (a' := ?_) #[true, true, true, false, true, true, false, false, false, false] rfl rfl (take_ofW HT_.out HW_.out (by kernel_rfl)) (fun _ _ _ h => h) (Or.inl ⟨by rfl, ?_⟩) hHeld ?_ ?_
  rotate_left
  · intro w' s0
    go_simp
    with_reducible rfl
  rotate_left
  · simp only [Act.put, List.setIfInBounds_toArray, List.set_cons_zero, List.set_cons_succ, i64_w, i32_w]
    rfl
  refine take_ (i := 6) (N := some 31) (v := ?_) (a' := ?_) #[true, true, true, false, true, true, true, false, false, false] rfl rfl (take_ofW HT_.out HW_.out (by kernel_rfl)) (fun _ _ _ h => h) (Or.inl ⟨by rfl, ?_⟩) hHeld ?_ ?_
  rotate_left
  · intro w' s0
    go_simp
    with_reducible rfl
  rotate_left
  · simp only [Act.put, List.setIfInBounds_toArray, List.set_cons_zero, List.set_cons_succ, i64_w, i32_w]
    rfl
  refine one_ (i := 3) (N := some 28) #[true, true, true, true, true, true, true, false, false, false] rfl rfl (one_of HT_.out (by kernel_rfl)) (by decide) (fun K hK => ?_)
  refine goes_ Try.func50 (by kernel_rfl) rfl #[.pointer (some ⟨g, 0, none⟩), .int .i64 60] (by rfl) rfl rfl (by (try simp only [List.map_toArray, List.map_cons, List.map_nil]); first | done | rfl) ?_
  with_reducible refine (RTextS.calls B g 60 s w0 _ (by omega) hl HB.out hg HR.out).mono ?_
  rintro e w1 ⟨rfl, hr, hb, hf⟩
  refine ⟨_, rfl, ?_⟩
  have HR1 := Aside0.mk hr
  have HX1 := Aside0.mk (HX.out.far2 HR.out hf (by omega))
  have HB2 := Aside0.mk hb
  have HF1 := Aside0.mk (HF.out.trans hf (fun _ _ h => .inl h))
  have HK1 := Aside0.mk (hf.blk HK.out (by omega))
  clear hr hb hf HR HX HB HF HK HB1
  refine hK.out _ _ (blk_cell HK1.out 1) (fun hHeld => ?_)
  clear hK K
  refine norm_ (a' := ?_) ?_ ?_
  rotate_left
  · show Act.put _ (some 28) _ = _
    simp only [Act.put, List.setIfInBounds_toArray, List.set_cons_zero, List.set_cons_succ, i64_w, i32_w]
    rfl
  refine one_ (i := 7) (N := some 32) #[true, true, true, true, true, true, true, true, false, false] rfl rfl (one_of HT_.out (by kernel_rfl)) (by decide) (fun K hK => ?_)
  refine goes_ Try.func76 (by kernel_rfl) rfl #[.pointer (some ⟨x, 0, none⟩), .int .i64 60] (by rfl) rfl rfl (by (try simp only [List.map_toArray, List.map_cons, List.map_nil]); first | done | rfl) ?_
  with_reducible refine (XTextS.calls B x 60 t w0 w1 (by omega) hk HB2.out (by omega) HX1.out).mono ?_
  rintro e w2 ⟨rfl, hx, hb, hf⟩
  refine ⟨_, rfl, ?_⟩
  have HX2 := Aside0.mk hx
  have HR2 := Aside0.mk (HR1.out.far hf hgx)
  have HB3 := Aside0.mk hb
  have HF2 := Aside0.mk (HF1.out.trans hf (fun _ _ h => .inr h))
  have HK2 := Aside0.mk (hf.blk HK1.out (by omega))
  clear hx hb hf HR1 HX1 HB2 HF1 HK1
  refine hK.out _ _ (blk_cell HK2.out 1) (fun hHeld => ?_)
  clear hK K
  refine norm_ (a' := ?_) ?_ ?_
  rotate_left
  · show Act.put _ (some 32) _ = _
    simp only [Act.put, List.setIfInBounds_toArray, List.set_cons_zero, List.set_cons_succ, i64_w, i32_w]
    rfl
  refine pure_ (i := 8) (N := some 33) (v := ?_) (a' := ?_) #[true, true, true, true, true, true, true, true, true, false] rfl rfl (any_of HT_.out (by kernel_rfl)) (fun _ _ _ h => h) (Or.inl ⟨by rfl, ?_⟩) ?_ ?_
  rotate_left
  · intro w'
    go_simp
    with_reducible rfl
  rotate_left
  · simp only [Act.put, List.setIfInBounds_toArray, List.set_cons_zero, List.set_cons_succ, i64_w, i32_w]
    rfl
  refine pure_ (i := 9) (N := some 6) (v := ?_) (a' := ?_) #[true, true, true, true, true, true, true, true, true, true] rfl rfl (any_of HT_.out (by kernel_rfl)) (fun _ _ _ h => h) (Or.inl ⟨by rfl, ?_⟩) ?_ ?_
  rotate_left
  · intro w'
    go_simp
    with_reducible rfl
  rotate_left
  · simp only [Act.put, List.setIfInBounds_toArray, List.set_cons_zero, List.set_cons_succ, i64_w, i32_w]
    rfl
  refine done_ (done_of HT_.out (by kernel_rfl)) ?_

  go_wp2
  go_ret
  exact ⟨⟨_, rfl⟩, HR2.out, HX2.out, HB3.out, HF2.out⟩
end Wr
end Go.Proofs.Ytjegkfdcelodeaa.P
