import Derived.Test.YtjegkfdcelodeaaAs6
namespace Go.Proofs.Ytjegkfdcelodeaa.P
open Go.RowKit Go.Proofs.YtjegkfdcelodeaaW.PrintWords Go.Proofs.YtjegkfdcelodeaaW.PrintLast Go.Proofs.YtjegkfdcelodeaaW.PrintMore
attribute [local go_sem] max2_int min2_int max_two min_two max_three min_three max_four min_four
set_option linter.unusedVariables false
set_option linter.unusedSimpArgs false
namespace As
open Wr
theorem far14 {p g : Nat} {w : World} (k : Qy) (h : g ≠ p) : ((((((((((((((w.setCell ⟨p, 0, none⟩ (.int .i64 k.a)).setCell ⟨p, 1, none⟩ (.int .i64 k.b)).setCell ⟨p, 2, none⟩ (.bool (k.G 0))).setCell ⟨p, 3, none⟩ (.bool (k.G 1))).setCell ⟨p, 4, none⟩ (.bool (k.G 2))).setCell ⟨p, 5, none⟩ (.bool (k.G 3))).setCell ⟨p, 6, none⟩ (.bool (k.H 0))).setCell ⟨p, 7, none⟩ (.bool (k.H 1))).setCell ⟨p, 8, none⟩ (.bool (k.H 2))).setCell ⟨p, 9, none⟩ (.bool (k.H 3))).setCell ⟨p, 10, none⟩ (.string (k.T 0))).setCell ⟨p, 11, none⟩ (.string (k.T 1))).setCell ⟨p, 12, none⟩ (.string (k.T 2))).setCell ⟨p, 13, none⟩ (.string (k.T 3))).heap[g]? = w.heap[g]? := by
  iterate 14 (rw [Below.heap_setCell _ _ _ g h])
/-- The reference's reader at g, the result at p, a query at c, made behind both. -/
structure RX (p g c : Nat) (q : Qy) (s : List Int × Int) (w0 w : World) : Prop where
  rb : QB p zQ w
  qb : QB c q w
  r : XdP g s.1 s.2 w
  b : Below p w0 w
structure RX0 (p g : Nat) (s : List Int × Int) (w0 w : World) : Prop where
  rb : QB p zQ w
  r : XdP g s.1 s.2 w
  b : Below p w0 w
theorem RX0.of {p g : Nat} {s s' : List Int × Int} {w0 w : World} {v : Value} (h : RX0 p g s w0 w) (hg : p < g) {e : Ending} {w' : World} (k : XQ p g v s' w0 w e w') : e = .returned v ∧ RX0 p g s' w0 w' :=
  ⟨k.1, ⟨⟨k.2.2.2.blk h.rb.blk (by omega)⟩, k.2.1, k.2.2.1⟩⟩
theorem RX0.num {p g : Nat} {s : List Int × Int} {w0 w : World} (h : RX0 p g s w0 w) (hg : p < g) (hl : bytesP s) :
    Calls Try.prog 71 #[.pointer (some ⟨g, 0, none⟩)] w fun e w' => e = .returned (.int .u64 (numS s).1) ∧ RX0 p g (numS s).2 w0 w' :=
  (XNumS.calls p g s w0 w hl h.b (by omega) h.r).mono fun e w' k => h.of hg k
theorem RX.below {p g c : Nat} {q : Qy} {s : List Int × Int} {w0 w w' : World} (h : RX p g c q s w0 w) (hb : Below w.heap.size w w') : RX p g c q s w0 w' :=
  ⟨h.rb.below hb, h.qb.below hb, h.r.below hb, h.b.trans (hb.mono (by have := blk_lt h.rb.blk; omega))⟩
theorem RX.eq {p g c : Nat} {q q' : Qy} {s s' : List Int × Int} {w0 w : World} (h : RX p g c q s w0 w) (e : q.cells = q'.cells) (e2 : s' = s) : RX p g c q' s' w0 w := by subst e2; exact ⟨h.rb, h.qb.eq e, h.r, h.b⟩
theorem RX.putG {p g c : Nat} {q : Qy} {s : List Int × Int} {w0 w : World} (h : RX p g c q s w0 w) (hg : p < g ∧ g < c) {i : Nat} (hi : i < 4) (x : Bool) : RX p g c (Qy.setG q i x) s w0 (w.setCell ⟨c, 2 + i, none⟩ (.bool x)) :=
  ⟨h.rb.set (by omega) _ _, h.qb.putG hi x, h.r.set c hg.2 _ _, h.b.setCell (p := ⟨c, 2 + i, none⟩) (by simp; omega) _⟩
theorem RX.putH {p g c : Nat} {q : Qy} {s : List Int × Int} {w0 w : World} (h : RX p g c q s w0 w) (hg : p < g ∧ g < c) {i : Nat} (hi : i < 4) (x : Bool) : RX p g c (Qy.setH q i x) s w0 (w.setCell ⟨c, 6 + i, none⟩ (.bool x)) :=
  ⟨h.rb.set (by omega) _ _, h.qb.putH hi x, h.r.set c hg.2 _ _, h.b.setCell (p := ⟨c, 6 + i, none⟩) (by simp; omega) _⟩
theorem RX.putT {p g c : Nat} {q : Qy} {s : List Int × Int} {w0 w : World} (h : RX p g c q s w0 w) (hg : p < g ∧ g < c) {i : Nat} (hi : i < 4) (x : ByteArray) : RX p g c (Qy.setT q i x) s w0 (w.setCell ⟨c, 10 + i, none⟩ (.string x)) :=
  ⟨h.rb.set (by omega) _ _, h.qb.putT hi x, h.r.set c hg.2 _ _, h.b.setCell (p := ⟨c, 10 + i, none⟩) (by simp; omega) _⟩
theorem RX.putA {p g c : Nat} {q : Qy} {s : List Int × Int} {w0 w : World} (h : RX p g c q s w0 w) (hg : p < g ∧ g < c) (x : Int) : RX p g c ⟨x, q.b, q.G, q.H, q.T⟩ s w0 (w.setCell ⟨c, 0, none⟩ (.int .i64 x)) :=
  ⟨h.rb.set (by omega) _ _, h.qb.putA x, h.r.set c hg.2 _ _, h.b.setCell (p := ⟨c, 0, none⟩) (by simp; omega) _⟩
theorem RX.putB {p g c : Nat} {q : Qy} {s : List Int × Int} {w0 w : World} (h : RX p g c q s w0 w) (hg : p < g ∧ g < c) (x : Int) : RX p g c ⟨q.a, x, q.G, q.H, q.T⟩ s w0 (w.setCell ⟨c, 1, none⟩ (.int .i64 x)) :=
  ⟨h.rb.set (by omega) _ _, h.qb.putB x, h.r.set c hg.2 _ _, h.b.setCell (p := ⟨c, 1, none⟩) (by simp; omega) _⟩
theorem RX.of {p g c : Nat} {q : Qy} {s s' : List Int × Int} {w0 w : World} {v : Value} (h : RX p g c q s w0 w) (hg : p < g ∧ g < c) {e : Ending} {w' : World} (k : XQ p g v s' w0 w e w') : e = .returned v ∧ RX p g c q s' w0 w' :=
  ⟨k.1, ⟨⟨k.2.2.2.blk h.rb.blk (by omega)⟩, ⟨k.2.2.2.blk h.qb.blk (by omega)⟩, k.2.1, k.2.2.1⟩⟩
theorem RX.text {p g c : Nat} {q : Qy} {s : List Int × Int} {w0 w : World} (h : RX p g c q s w0 w) (hg : p < g ∧ g < c) (hl : bytesP s) :
    Calls Try.prog 76 #[.pointer (some ⟨g, 0, none⟩), .int .i64 16] w fun e w' => e = .returned (.string (textS 16 s).1) ∧ RX p g c q (textS 16 s).2 w0 w' :=
  (XTextS.calls p g 16 s w0 w (by omega) hl h.b (by omega) h.r).mono fun e w' k => h.of hg k
theorem RX.flagG {p g c : Nat} {q : Qy} {s : List Int × Int} {w0 w : World} (h : RX p g c q s w0 w) (hg : p < g ∧ g < c) (hl : bytesP s) :
    Calls Try.prog 77 #[.pointer (some ⟨g, 0, none⟩)] w fun e w' => e = .returned (.bool (dG s).1) ∧ RX p g c q (dG s).2 w0 w' :=
  (XBoolS.calls p g s w0 w hl h.b (by omega) h.r).mono fun e w' k => h.of hg k
theorem RX.flagH {p g c : Nat} {q : Qy} {s : List Int × Int} {w0 w : World} (x : Bool) (hx : (dH s).1 = x) (h : RX p g c q (dG s).2 w0 w) (hg : p < g ∧ g < c) (hl : bytesP (dG s).2) :
    Calls Try.prog 77 #[.pointer (some ⟨g, 0, none⟩)] w fun e w' => e = .returned (.bool x) ∧ RX p g c q (dH s).2 w0 w' := by
  subst hx
  exact (XBoolS.calls p g (dG s).2 w0 w hl h.b (by omega) h.r).mono fun e w' k => h.of hg k
def rread.T15 : Bool × List (List Nat × List Nat) := (true, [([], []), ([], []), ([1], [1]), ([2], [2]), ([3], [3]), ([0, 0], [0]), ([4, 5, 0, 1, 2, 3, 4, 5], [4])])
def rread.B15 : List Nat := [0, 0, 2, 6, 14, 1, 63]
theorem rread.tab15 : rtab .any (opsOf Try.f58 15) = rread.T15 := by kernel_rfl
theorem rread.bits15 : waitsOk rread.T15.2 rread.B15 = true := by kernel_rfl
set_option maxHeartbeats 8000000 in
set_option maxRecDepth 100000 in
theorem RRead_dims.calls (A0 : Option Addr) (c0 : Nat) (l : List Int) (dims : Int) (w : World) (hd : dims < 1 ∨ 4 < dims) :
    Calls Try.prog 58 #[.slice A0 l.length c0, .int .i64 dims] w fun e w' => e = .returned (.tuple #[.agg zQ.cells, .int .i64 1]) ∧ Below w.heap.size w w' := by
  have HQ := Aside0.mk (QB.new zQ w)
  have HB := Aside0.mk (show Below w.heap.size w (w.alloc (.cells zQ.cells 58 (0, 0))) from (Below.refl _ w).alloc (Nat.le_refl _) _)
  have hz : zQ.cells = #[.int .i64 0, .int .i64 0, .bool false, .bool false, .bool false, .bool false, .bool false, .bool false, .bool false, .bool false, .string { data := #[] }, .string { data := #[] }, .string { data := #[] }, .string { data := #[] }] := rfl
  rw [hz] at HQ HB
  clear hz
  cases g1 : decide (dims < 1) <;> cases g2 : decide (4 < dims)
  · simp at g1 g2; omega
  all_goals
    (have g3 : decide (dims > 4) = decide (4 < dims) := rfl
     rw [g2] at g3
     clear hd
     obtain ⟨c0, c1, c2, c3, c4, c5, c6, c7, c8, c9, c10, c11, c12, c13⟩ := HQ.out.all
     have e0 := HQ.out.fr 0
     have e1 := HQ.out.fr 1
     have e2 := HQ.out.fr 2
     have e3 := HQ.out.fr 3
     have e4 := HQ.out.fr 4
     have e5 := HQ.out.fr 5
     have e6 := HQ.out.fr 6
     have e7 := HQ.out.fr 7
     have e8 := HQ.out.fr 8
     have e9 := HQ.out.fr 9
     have e10 := HQ.out.fr 10
     have e11 := HQ.out.fr 11
     have e12 := HQ.out.fr 12
     have e13 := HQ.out.fr 13
     go_enter Try.func58, Try.ntmps58
     go_wp2
     refine bodyPost_ret (results_ct rfl _ _ w.heap.size 58 _ (0, 0) _ rfl HQ.out.blk Try.underlying58 rfl (by kernel_rfl)) rfl ⟨rfl, HB.out⟩)
set_option maxHeartbeats 8000000 in
set_option maxRecDepth 100000 in
theorem RRead_in.calls (A0 : Option Addr) (c0 : Nat) (l : List Int) (n : Nat) (rq : Qy) (rf : Int) (w : World) (hC : Kd.C (Kd.int .u8) w A0 l.length l) (hc : l.length ≤ c0) (hb : bytesP (l, 0)) (h1 : 1 ≤ n) (h4 : n ≤ 4) (hr : readV l n = (rq, rf)) :
    Calls Try.prog 58 #[.slice A0 l.length c0, .int .i64 n] w fun e w' => e = .returned (.tuple #[.agg rq.cells, .int .i64 rf]) ∧ Below w.heap.size w w' := by
  have m1 : decide ((n : Int) < 1) = false := decide_eq_false (by omega)
  have m2 : decide (4 < (n : Int)) = false := decide_eq_false (by omega)
  have m3 : decide ((n : Int) > 4) = false := decide_eq_false (by omega)
  have H := Aside0.mk (show RX0 w.heap.size (w.heap.size + 1) (l, 0) w ((w.alloc (.cells zQ.cells 58 (0, 0))).alloc (.cells #[.slice A0 l.length c0, .int .i64 0] 69 (0, 0))) from
    ⟨(QB.new zQ w).below ((Below.refl _ _).alloc (Nat.le_refl _) _),
     ⟨A0, c0, by simpa using blk_new (w.alloc (.cells zQ.cells 58 (0, 0))) (.cells #[.slice A0 l.length c0, .int .i64 0] 69 (0, 0)), hc, Kd.C_alloc (Kd.C_alloc hC _) _, fun ad e hp => by subst e; have := Kd.C_lt hC hp (by decide); omega⟩,
     ((Below.refl _ w).alloc (Nat.le_refl _) _).alloc (by simp) _⟩)
  have hz : zQ.cells = #[.int .i64 0, .int .i64 0, .bool false, .bool false, .bool false, .bool false, .bool false, .bool false, .bool false, .bool false, .string { data := #[] }, .string { data := #[] }, .string { data := #[] }, .string { data := #[] }] := rfl
  rw [hz] at H
  clear hz hC
  unfold readV at hr
  rw [if_neg (by omega), Int.toNat_natCast] at hr
  have HA := Aside0.mk hr
  have HY := Aside0.mk hb
  clear hr hb
  go_enter Try.func58, Try.ntmps58
  go_wp2_with fail
  refine (H.out.num (by omega) HY.out).mono ?_
  rintro e w3 ⟨rfl, hh⟩
  have H2 := Aside0.mk hh
  have HY2 := Aside0.mk (bytes_num HY.out)
  clear hh H
  go_wp2_with fail
  refine (H2.out.num (by omega) HY2.out).mono ?_
  rintro e w4 ⟨rfl, hh⟩
  have H := Aside0.mk (show RX w.heap.size (w.heap.size + 1) w4.heap.size zQ (numS (numS (l, 0)).2).2 w (w4.alloc (.cells zQ.cells 58 (0, 0))) from
    ⟨hh.rb.below ((Below.refl _ _).alloc (Nat.le_refl _) _), QB.new zQ w4, hh.r.below ((Below.refl _ _).alloc (Nat.le_refl _) _), hh.b.alloc (by have := blk_lt hh.rb.blk; omega) _⟩)
  have HG := Aside0.mk (show w.heap.size < w.heap.size + 1 ∧ w.heap.size + 1 < w4.heap.size from ⟨by omega, by obtain ⟨_, _, h⟩ := hh.r; exact blk_lt h.blk⟩)
  have hz : zQ.cells = #[.int .i64 0, .int .i64 0, .bool false, .bool false, .bool false, .bool false, .bool false, .bool false, .bool false, .bool false, .string { data := #[] }, .string { data := #[] }, .string { data := #[] }, .string { data := #[] }] := rfl
  rw [hz] at H
  have HY3 := Aside0.mk (bytes_num HY2.out)
  have ha0 := (numS_bd _ HY.out).1
  have hb0 := (numS_bd _ HY2.out).1
  clear hh H2 HY HY2 hz
  generalize (numS (l, 0)).1 = a at HA ha0 ⊢
  generalize (numS (numS (l, 0)).2).1 = b at HA hb0 ⊢
  generalize (numS (numS (l, 0)).2).2 = s at HA H HY3 ⊢
  go_wp2
  go_loopw [10] (fun x10 wr => ∃ i : Nat, x10 = .int .i64 i ∧ i ≤ n ∧ Aside0 (RX w.heap.size (w.heap.size + 1) w4.heap.size (qR s 0 0 i) (dS s i) w wr)) (fun x10 _ => n - (intOf x10).toNat)
  case atStart => exact ⟨0, rfl, by omega, ⟨H.out.eq (qR0 s 0 0).symm rfl⟩⟩
  case round =>
    clear H
    obtain ⟨i, rfl, hi, H⟩ := hrel
    by_cases d : i < n
    · have dl : decide ((i : Int) < (n : Int)) = true := decide_eq_true (by omega)
      have d4 : i < 4 := by omega
      have b1 : (0 : Int) ≤ (i : Int) := by omega
      have b2 : (i : Int) < 4 := by omega
      have hw : wrap64 ((i : Int) + 1) = ((i + 1 : Nat) : Int) := by unfold wrap64; omega
      obtain ⟨x, hx⟩ : ∃ x, (dH (dS s i)).1 = x := ⟨_, rfl⟩
      have HY := Aside0.mk (bytes_S HY3.out i)
      go_wp2_with fail
      refine (H.out.flagG HG.out HY.out).mono ?_
      rintro e u1 ⟨rfl, hh⟩
      have Hu1 := Aside0.mk hh
      clear hh H
      have f1 := Hu1.out.qb.cG d4
      have f2 := Hu1.out.qb.fr (2 + i)
      go_wp2_with fail
      clear f1 f2
      have Hu2 := Aside0.mk (Hu1.out.putG HG.out d4 (dG (dS s i)).1)
      generalize World.setCell _ _ _ = u2 at Hu2 ⊢
      refine (Hu2.out.flagH x hx HG.out (bytes_G HY.out)).mono ?_
      rintro e u3 ⟨rfl, hh⟩
      have Hu3 := Aside0.mk hh
      clear hh Hu1 Hu2
      have f1 := Hu3.out.qb.cH d4
      have f2 := Hu3.out.qb.fr (6 + i)
      have Hu4 := Aside0.mk (Hu3.out.putH HG.out d4 x)
      have g1 := Hu4.out.qb.cH d4
      have g3 : (Qy.setH (Qy.setG (qR s 0 0 i) i (dG (dS s i)).1) i x).H i = x := by simp [Qy.setH, up]
      rw [g3] at g1
      clear g3
      cases x
      · go_wp2
        go_roundw
        case rel => exact ⟨i + 1, rfl, by omega, ⟨Hu4.out.eq (qR_step_no s 0 0 d4 hx) (dS_no s i hx)⟩⟩
        case measure => simp only [intOf]; omega
      · go_wp2_with fail
        clear g1 f1 f2
        generalize World.setCell _ _ _ = u4 at Hu4 ⊢
        refine (Hu4.out.text HG.out (bytes_H HY.out)).mono ?_
        rintro e u5 ⟨rfl, hh⟩
        have Hu5 := Aside0.mk hh
        clear hh Hu3 Hu4
        have f1 := Hu5.out.qb.cT d4
        have f2 := Hu5.out.qb.fr (10 + i)
        go_wp2
        go_roundw
        case rel => exact ⟨i + 1, rfl, by omega, ⟨(Hu5.out.putT HG.out d4 _).eq (qR_step s 0 0 d4 hx) (dS_yes s i hx)⟩⟩
        case measure => simp only [intOf]; omega
    · obtain rfl : i = n := by omega
      have dl : decide ((i : Int) < (i : Int)) = false := decide_eq_false (by omega)
      have HQ := Aside0.mk (show (qR s a b i) = ⟨a, b, (qR s 0 0 i).G, (qR s 0 0 i).H, (qR s 0 0 i).T⟩ from rfl)
      generalize qR s a b i = qq at HA HQ
      generalize qR s 0 0 i = q0 at H HQ
      generalize dS s i = t at H HA
      have H5 := H
      clear H
      obtain ⟨Ax, cx, hX⟩ := H5.out.r
      have hf1 := hX.c1
      have hf0 := hX.c0
      clear hX
      by_cases cf : t.2 = 0
      · have cfb : (t.2 != 0) = false := bne_eq_false_iff_eq.mpr cf
        by_cases cl : 0 < t.1.length
        · have cl1 : decide (((t.1.length : Nat) : Int) > 0) = true := decide_eq_true (by omega)
          have cl2 : decide (0 < ((t.1.length : Nat) : Int)) = true := decide_eq_true (by omega)
          obtain ⟨c0, c1, c2, c3, c4, c5, c6, c7, c8, c9, c10, c11, c12, c13⟩ := H5.out.rb.all
          have e0 := H5.out.rb.fr 0
          have e1 := H5.out.rb.fr 1
          have e2 := H5.out.rb.fr 2
          have e3 := H5.out.rb.fr 3
          have e4 := H5.out.rb.fr 4
          have e5 := H5.out.rb.fr 5
          have e6 := H5.out.rb.fr 6
          have e7 := H5.out.rb.fr 7
          have e8 := H5.out.rb.fr 8
          have e9 := H5.out.rb.fr 9
          have e10 := H5.out.rb.fr 10
          have e11 := H5.out.rb.fr 11
          have e12 := H5.out.rb.fr 12
          have e13 := H5.out.rb.fr 13
          go_wp2
          have hF := fin14 (p := w.heap.size) (B := w.heap.size) (w0 := w) zQ H5.out.rb.blk H5.out.b (Nat.le_refl _)
          refine bodyPost_ret (results_ct rfl _ _ w.heap.size 58 _ (0, 0) _ rfl hF.heap Try.underlying58 rfl (by kernel_rfl)) rfl ⟨?_, hF.below⟩
          have hA := HA.out
          unfold endV at hA; rw [if_neg (by omega), if_pos cl] at hA; cases hA; rfl
        · have cl1 : decide (((t.1.length : Nat) : Int) > 0) = false := decide_eq_false (by omega)
          have cl2 : decide (0 < ((t.1.length : Nat) : Int)) = false := decide_eq_false (by omega)
          by_cases cr : 4611686018427387904 < a ∨ 4611686018427387904 < b
          · cases g1 : decide (4611686018427387904 < a) <;> cases g2 : decide (4611686018427387904 < b)
            · simp at g1 g2; omega
            all_goals
              (have g3 : decide (a > 4611686018427387904) = decide (4611686018427387904 < a) := rfl
               have g4 : decide (b > 4611686018427387904) = decide (4611686018427387904 < b) := rfl
               rw [g1] at g3
               rw [g2] at g4
               obtain ⟨c0, c1, c2, c3, c4, c5, c6, c7, c8, c9, c10, c11, c12, c13⟩ := H5.out.rb.all
               have e0 := H5.out.rb.fr 0
               have e1 := H5.out.rb.fr 1
               have e2 := H5.out.rb.fr 2
               have e3 := H5.out.rb.fr 3
               have e4 := H5.out.rb.fr 4
               have e5 := H5.out.rb.fr 5
               have e6 := H5.out.rb.fr 6
               have e7 := H5.out.rb.fr 7
               have e8 := H5.out.rb.fr 8
               have e9 := H5.out.rb.fr 9
               have e10 := H5.out.rb.fr 10
               have e11 := H5.out.rb.fr 11
               have e12 := H5.out.rb.fr 12
               have e13 := H5.out.rb.fr 13
               go_wp2
               have hF := fin14 (p := w.heap.size) (B := w.heap.size) (w0 := w) zQ H5.out.rb.blk H5.out.b (Nat.le_refl _)
               refine bodyPost_ret (results_ct rfl _ _ w.heap.size 58 _ (0, 0) _ rfl hF.heap Try.underlying58 rfl (by kernel_rfl)) rfl ⟨?_, hF.below⟩
               have hA := HA.out
               unfold endV at hA; rw [if_neg (by omega), if_neg cl, if_pos cr] at hA; cases hA; rfl)
          · have g1 : decide (4611686018427387904 < a) = false := decide_eq_false (by omega)
            have g2 : decide (4611686018427387904 < b) = false := decide_eq_false (by omega)
            have g3 : decide (a > 4611686018427387904) = false := decide_eq_false (by omega)
            have g4 : decide (b > 4611686018427387904) = false := decide_eq_false (by omega)
            have hwa : IntKind.i64.wrap a = a := by rw [wrap_eq]; unfold wrap64; omega
            have hwb : IntKind.i64.wrap b = b := by rw [wrap_eq]; unfold wrap64; omega
            have hwc : wrap64 a = a := by unfold wrap64; omega
            have hwd : wrap64 b = b := by unfold wrap64; omega
            obtain ⟨c, hch⟩ : ∃ c, chkQ qq i = c := ⟨_, rfl⟩
            have HD := Aside0.mk hch
            have HR := Aside0.mk (⟨cf, cl, cr⟩ : t.2 = 0 ∧ ¬ 0 < t.1.length ∧ ¬ (4611686018427387904 < a ∨ 4611686018427387904 < b))
            clear hch cf cr
            have H7 := Aside0.mk ((H5.out.putA HG.out a).putB HG.out b)
            rw [← HQ.out] at H7
            obtain ⟨c0, c1, c2, c3, c4, c5, c6, c7, c8, c9, c10, c11, c12, c13⟩ := H5.out.qb.all
            have e0 := H5.out.qb.fr 0
            have e1 := H5.out.qb.fr 1
            go_wp2_with fail
            have hK := RCheck.calls qq i c ((wr.setCell ⟨w4.heap.size, 0, none⟩ (.int .i64 a)).setCell ⟨w4.heap.size, 1, none⟩ (.int .i64 b)) HD.out
            rw [HQ.out] at hK
            refine hK.mono ?_
            clear hK
            rintro e w7 ⟨rfl, hb⟩
            have H8 := Aside0.mk (H7.out.below hb)
            clear hb H7 H5 c0 c1 c2 c3 c4 c5 c6 c7 c8 c9 c10 c11 c12 c13 e0 e1 HQ hf0 hf1
            by_cases cc : c = 0
            · have ccb : (c != 0) = false := bne_eq_false_iff_eq.mpr cc
              obtain ⟨k0, k1, k2, k3, k4, k5, k6, k7, k8, k9, k10, k11, k12, k13⟩ := H8.out.qb.all
              obtain ⟨c0, c1, c2, c3, c4, c5, c6, c7, c8, c9, c10, c11, c12, c13⟩ := H8.out.rb.all
              have e0 := H8.out.rb.fr 0
              have e1 := H8.out.rb.fr 1
              have e2 := H8.out.rb.fr 2
              have e3 := H8.out.rb.fr 3
              have e4 := H8.out.rb.fr 4
              have e5 := H8.out.rb.fr 5
              have e6 := H8.out.rb.fr 6
              have e7 := H8.out.rb.fr 7
              have e8 := H8.out.rb.fr 8
              have e9 := H8.out.rb.fr 9
              have e10 := H8.out.rb.fr 10
              have e11 := H8.out.rb.fr 11
              have e12 := H8.out.rb.fr 12
              have e13 := H8.out.rb.fr 13
              go_wp2
              have hF := fin14 (p := w.heap.size) (B := w.heap.size) (w0 := w) qq H8.out.rb.blk H8.out.b (Nat.le_refl _)
              refine bodyPost_ret (results_ct rfl _ _ w.heap.size 58 _ (0, 0) _ rfl hF.heap Try.underlying58 rfl (by kernel_rfl)) rfl ⟨?_, hF.below⟩
              have hA := HA.out
              unfold endV at hA; rw [if_neg (by have := HR.out.1; omega), if_neg HR.out.2.1, if_neg HR.out.2.2, if_neg (by have := HD.out; omega)] at hA; cases hA; rfl
            · have ccb : (c != 0) = true := bne_iff_ne.mpr cc
              obtain ⟨c0, c1, c2, c3, c4, c5, c6, c7, c8, c9, c10, c11, c12, c13⟩ := H8.out.rb.all
              have e0 := H8.out.rb.fr 0
              have e1 := H8.out.rb.fr 1
              have e2 := H8.out.rb.fr 2
              have e3 := H8.out.rb.fr 3
              have e4 := H8.out.rb.fr 4
              have e5 := H8.out.rb.fr 5
              have e6 := H8.out.rb.fr 6
              have e7 := H8.out.rb.fr 7
              have e8 := H8.out.rb.fr 8
              have e9 := H8.out.rb.fr 9
              have e10 := H8.out.rb.fr 10
              have e11 := H8.out.rb.fr 11
              have e12 := H8.out.rb.fr 12
              have e13 := H8.out.rb.fr 13
              go_wp2
              have hF := fin14 (p := w.heap.size) (B := w.heap.size) (w0 := w) zQ H8.out.rb.blk H8.out.b (Nat.le_refl _)
              refine bodyPost_ret (results_ct rfl _ _ w.heap.size 58 _ (0, 0) _ rfl hF.heap Try.underlying58 rfl (by kernel_rfl)) rfl ⟨?_, hF.below⟩
              have hA := HA.out
              unfold endV at hA; rw [if_neg (by have := HR.out.1; omega), if_neg HR.out.2.1, if_neg HR.out.2.2, if_pos (by have := HD.out; omega), HD.out] at hA; cases hA; rfl
      · have cfb : (t.2 != 0) = true := bne_iff_ne.mpr cf
        go_wp2_with fail
        refine start_ (n := 7) (S := fun w' => w'.cell? ⟨w.heap.size + 1, 1, none⟩ = some (.int .i64 t.2)) (ds := []) #[false, false, false, false, false, false, false] (by kernel_rfl) rfl rfl (hf1) (fun hHeld => ?_)
        refine with_tabW rread.tab15 rread.bits15 (fun HT_ HW_ => ?_)
        replace H5 := Aside0.mk (H5.out.below (below_drew1 (Below.refl _ _)))
        generalize hW : World.drew _ = W at H5 hHeld ⊢
        clear hW
        refine pure_ (i := 0) (N := some 55) (v := ?_) (a' := ?_) #[true, false, false, false, false, false, false] rfl rfl (any_of HT_.out (by kernel_rfl)) (fun _ _ _ h => h) (Or.inl ⟨by rfl, ?_⟩) ?_ ?_
        rotate_left
        · intro w'
          go_simp
          with_reducible rfl
        rotate_left
        · simp only [Act.put, List.setIfInBounds_toArray, List.set_cons_zero, List.set_cons_succ, i64_w, i32_w]
          rfl
        refine pure_ (i := 1) (N := some 56) (v := ?_) (a' := ?_) #[true, true, false, false, false, false, false] rfl rfl (any_of HT_.out (by kernel_rfl)) (fun _ _ _ h => h) (Or.inl ⟨by rfl, ?_⟩) ?_ ?_
        rotate_left
        · intro w'
          go_simp
          with_reducible rfl
        rotate_left
        · simp only [Act.put, List.setIfInBounds_toArray, List.set_cons_zero, List.set_cons_succ, i64_w, i32_w]
          rfl
        refine pure_ (i := 2) (N := some 57) (v := ?_) (a' := ?_) #[true, true, true, false, false, false, false] rfl rfl (any_of HT_.out (by kernel_rfl)) (fun _ _ _ h => h) (Or.inl ⟨by rfl, ?_⟩) ?_ ?_
        rotate_left
        · intro w'
          go_simp
          with_reducible rfl
        rotate_left
        · simp only [Act.put, List.setIfInBounds_toArray, List.set_cons_zero, List.set_cons_succ, i64_w, i32_w]
          rfl
        refine pure_ (i := 3) (N := some 58) (v := ?_) (a' := ?_) #[true, true, true, true, false, false, false] rfl rfl (any_of HT_.out (by kernel_rfl)) (fun _ _ _ h => h) (Or.inl ⟨by rfl, ?_⟩) ?_ ?_
        rotate_left
        · intro w'
          go_simp
          with_reducible rfl
        rotate_left
        · simp only [Act.put, List.setIfInBounds_toArray, List.set_cons_zero, List.set_cons_succ, i64_w, i32_w]
          rfl
        refine take_ (i := 4) (N := some 59) (v := ?_) (a' := ?_) #[true, true, true, true, true, false, false] rfl rfl (take_ofW HT_.out HW_.out (by kernel_rfl)) (fun _ _ _ h => h) (Or.inl ⟨by rfl, ?_⟩) hHeld ?_ ?_
        rotate_left
        · intro w' s0
          go_simp
          with_reducible rfl
        rotate_left
        · simp only [Act.put, List.setIfInBounds_toArray, List.set_cons_zero, List.set_cons_succ, i64_w, i32_w]
          rfl
        refine one_ (i := 5) (N := none) #[true, true, true, true, true, true, false] rfl rfl (one_of HT_.out (by kernel_rfl)) (by decide) (fun K hK => ?_)
        obtain ⟨c0, c1, c2, c3, c4, c5, c6, c7, c8, c9, c10, c11, c12, c13⟩ := H5.out.rb.all
        have e0 := H5.out.rb.fr 0
        have e1 := H5.out.rb.fr 1
        have e2 := H5.out.rb.fr 2
        have e3 := H5.out.rb.fr 3
        have e4 := H5.out.rb.fr 4
        have e5 := H5.out.rb.fr 5
        have e6 := H5.out.rb.fr 6
        have e7 := H5.out.rb.fr 7
        have e8 := H5.out.rb.fr 8
        have e9 := H5.out.rb.fr 9
        have e10 := H5.out.rb.fr 10
        have e11 := H5.out.rb.fr 11
        have e12 := H5.out.rb.fr 12
        have e13 := H5.out.rb.fr 13
        refine skip_ (w1 := ?_) (by rfl) rfl ?_ ?_
        rotate_left
        · go_simp
          rfl
        clear c0 c1 c2 c3 c4 c5 c6 c7 c8 c9 c10 c11 c12 c13 e0 e1 e2 e3 e4 e5 e6 e7 e8 e9 e10 e11 e12 e13
        have hF := fin14 (p := w.heap.size) (B := w.heap.size) (w0 := w) zQ H5.out.rb.blk H5.out.b (Nat.le_refl _)
        obtain ⟨Ax, cx, hX⟩ := H5.out.r
        have hf2 : _ = some (Value.int .i64 t.2) := blk_cell ((far14 (p := w.heap.size) zQ (by omega)).trans hX.blk) 1
        clear hX
        refine hK.out _ _ (hf2) (fun hHeld => ?_)
        clear hK K
        refine pure_ (i := 6) (N := some 5) (v := ?_) (a' := ?_) #[true, true, true, true, true, true, true] rfl rfl (any_of HT_.out (by kernel_rfl)) (fun _ _ _ h => h) (Or.inl ⟨by rfl, ?_⟩) ?_ ?_
        rotate_left
        · intro w'
          go_simp
          with_reducible rfl
        rotate_left
        · simp only [Act.put, List.setIfInBounds_toArray, List.set_cons_zero, List.set_cons_succ, i64_w, i32_w]
          rfl
        refine done_ (done_of HT_.out (by kernel_rfl)) ?_

        go_wp2
        refine bodyPost_ret (results_ct rfl _ _ w.heap.size 58 _ (0, 0) _ rfl hF.heap Try.underlying58 rfl (by kernel_rfl)) rfl ⟨?_, hF.below⟩
        have hA := HA.out
        unfold endV at hA; rw [if_pos cf] at hA; cases hA; rfl
end As
end Go.Proofs.Ytjegkfdcelodeaa.P
