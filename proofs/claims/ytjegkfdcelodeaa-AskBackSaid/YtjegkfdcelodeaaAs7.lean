import Derived.Test.YtjegkfdcelodeaaAs6
import Derived.Test.YtjegkfdcelodeaaLw1
namespace Go.Proofs.Ytjegkfdcelodeaa.P
open Go.RowKit Go.Proofs.YtjegkfdcelodeaaW.PrintWords Go.Proofs.YtjegkfdcelodeaaW.PrintLast Go.Proofs.YtjegkfdcelodeaaW.PrintMore
attribute [local go_sem] max2_int min2_int max_two min_two max_three min_three max_four min_four
set_option linter.unusedVariables false
set_option linter.unusedSimpArgs false
namespace As
open Wr
/-- A reader and a query at p, made behind it. -/
structure RS (p g : Nat) (q : Qy) (s : List Int × Int) (w0 w : World) : Prop where
  qb : QB p q w
  r : RdP g s.1 s.2 w
  b : Below p w0 w
theorem RS.below {p g : Nat} {q : Qy} {s : List Int × Int} {w0 w w' : World} (h : RS p g q s w0 w) (hb : Below w.heap.size w w') : RS p g q s w0 w' :=
  ⟨h.qb.below hb, h.r.below hb, h.b.trans (hb.mono (by have := blk_lt h.qb.blk; omega))⟩
theorem RS.eq {p g : Nat} {q q' : Qy} {s s' : List Int × Int} {w0 w : World} (h : RS p g q s w0 w) (e : q.cells = q'.cells) (e2 : s' = s) : RS p g q' s' w0 w := by subst e2; exact ⟨h.qb.eq e, h.r, h.b⟩
theorem RS.putG {p g : Nat} {q : Qy} {s : List Int × Int} {w0 w : World} (h : RS p g q s w0 w) (hg : p < g) {i : Nat} (hi : i < 4) (x : Bool) : RS p g (Qy.setG q i x) s w0 (w.setCell ⟨p, 2 + i, none⟩ (.bool x)) :=
  ⟨h.qb.putG hi x, h.qb.reader h.r (by omega) _ _, h.b.setCell (p := ⟨p, 2 + i, none⟩) (Nat.le_refl _) _⟩
theorem RS.putH {p g : Nat} {q : Qy} {s : List Int × Int} {w0 w : World} (h : RS p g q s w0 w) (hg : p < g) {i : Nat} (hi : i < 4) (x : Bool) : RS p g (Qy.setH q i x) s w0 (w.setCell ⟨p, 6 + i, none⟩ (.bool x)) :=
  ⟨h.qb.putH hi x, h.qb.reader h.r (by omega) _ _, h.b.setCell (p := ⟨p, 6 + i, none⟩) (Nat.le_refl _) _⟩
theorem RS.putT {p g : Nat} {q : Qy} {s : List Int × Int} {w0 w : World} (h : RS p g q s w0 w) (hg : p < g) {i : Nat} (hi : i < 4) (x : ByteArray) : RS p g (Qy.setT q i x) s w0 (w.setCell ⟨p, 10 + i, none⟩ (.string x)) :=
  ⟨h.qb.putT hi x, h.qb.reader h.r (by omega) _ _, h.b.setCell (p := ⟨p, 10 + i, none⟩) (Nat.le_refl _) _⟩
theorem RS.putA {p g : Nat} {q : Qy} {s : List Int × Int} {w0 w : World} (h : RS p g q s w0 w) (hg : p < g) (x : Int) : RS p g ⟨x, q.b, q.G, q.H, q.T⟩ s w0 (w.setCell ⟨p, 0, none⟩ (.int .i64 x)) :=
  ⟨h.qb.putA x, h.qb.reader h.r (by omega) _ _, h.b.setCell (p := ⟨p, 0, none⟩) (Nat.le_refl _) _⟩
theorem RS.putB {p g : Nat} {q : Qy} {s : List Int × Int} {w0 w : World} (h : RS p g q s w0 w) (hg : p < g) (x : Int) : RS p g ⟨q.a, x, q.G, q.H, q.T⟩ s w0 (w.setCell ⟨p, 1, none⟩ (.int .i64 x)) :=
  ⟨h.qb.putB x, h.qb.reader h.r (by omega) _ _, h.b.setCell (p := ⟨p, 1, none⟩) (Nat.le_refl _) _⟩
theorem RS.of {p g : Nat} {q : Qy} {s s' : List Int × Int} {w0 w : World} {v : Value} (h : RS p g q s w0 w) (hg : p < g) {e : Ending} {w' : World} (k : RQ p g v s' w0 w e w') : e = .returned v ∧ RS p g q s' w0 w' :=
  ⟨k.1, ⟨⟨k.2.2.2.blk h.qb.blk (by omega)⟩, k.2.1, k.2.2.1⟩⟩
theorem RS.num {p g : Nat} {q : Qy} {s : List Int × Int} {w0 w : World} (h : RS p g q s w0 w) (hg : p < g) (hl : bytesP s) :
    Calls Try.prog 48 #[.pointer (some ⟨g, 0, none⟩)] w fun e w' => e = .returned (.int .u64 (numS s).1) ∧ RS p g q (numS s).2 w0 w' :=
  (RNumS.calls p g s w0 w hl h.b (by omega) h.r).mono fun e w' k => h.of hg k
theorem RS.text {p g : Nat} {q : Qy} {s : List Int × Int} {w0 w : World} (h : RS p g q s w0 w) (hg : p < g) (hl : bytesP s) :
    Calls Try.prog 50 #[.pointer (some ⟨g, 0, none⟩), .int .i64 16] w fun e w' => e = .returned (.string (textS 16 s).1) ∧ RS p g q (textS 16 s).2 w0 w' :=
  (RTextS.calls p g 16 s w0 w (by omega) hl h.b (by omega) h.r).mono fun e w' k => h.of hg k
theorem RS.flagG {p g : Nat} {q : Qy} {s : List Int × Int} {w0 w : World} (h : RS p g q s w0 w) (hg : p < g) :
    Calls Try.prog 51 #[.pointer (some ⟨g, 0, none⟩)] w fun e w' => e = .returned (.bool (dG s).1) ∧ RS p g q (dG s).2 w0 w' :=
  (RBoolS.calls p g s w0 w h.b (by omega) h.r).mono fun e w' k => h.of hg k
theorem RS.flagH {p g : Nat} {q : Qy} {s : List Int × Int} {w0 w : World} (x : Bool) (hx : (dH s).1 = x) (h : RS p g q (dG s).2 w0 w) (hg : p < g) :
    Calls Try.prog 51 #[.pointer (some ⟨g, 0, none⟩)] w fun e w' => e = .returned (.bool x) ∧ RS p g q (dH s).2 w0 w' := by
  subst hx
  exact (RBoolS.calls p g (dG s).2 w0 w h.b (by omega) h.r).mono fun e w' k => h.of hg k
theorem numS_range {s : List Int × Int} (h : bytesP s) : 0 ≤ (numS s).1 := (numS_bd s h).1
def aread.T9 : Bool × List (List Nat × List Nat) := (true, [([], []), ([], []), ([], []), ([2], [2]), ([], []), ([4, 3], [4]), ([], []), ([6, 0, 0, 2, 3], [0, 6]), ([7, 3, 5, 0, 2, 3], [3, 7]), ([], []), ([9, 1, 0, 1, 2, 3, 4, 5, 6, 7, 8], [1, 9]), ([10, 5, 8, 0, 1, 2, 3, 4, 5, 6, 7, 8], [5, 10])])
def aread.B9 : List Nat := [0, 0, 0, 4, 0, 28, 0, 77, 253, 0, 1023, 2047]
theorem aread.tab9 : rtab .any (opsOf Try.f57 9) = aread.T9 := by kernel_rfl
theorem aread.bits9 : waitsOk aread.T9.2 aread.B9 = true := by kernel_rfl
set_option maxHeartbeats 8000000 in
set_option maxRecDepth 100000 in
theorem Read_dims.calls (A0 : Option Addr) (c0 : Nat) (l : List Int) (dims : Int) (w : World) (hd : dims < 1 ∨ 4 < dims) :
    Calls Try.prog 57 #[.slice A0 l.length c0, .int .i64 dims] w fun e w' => e = .returned (.tuple #[.agg zQ.cells, .int .i64 1]) ∧ Below w.heap.size w w' := by
  have hm : (decide (1 ≤ dims) && decide (dims ≤ 4)) = false := by rcases hd with h | h <;> simp <;> omega
  have HQ := Aside0.mk (QB.new zQ w)
  have HB := Aside0.mk (show Below w.heap.size w (w.alloc (.cells zQ.cells 58 (0, 0))) from (Below.refl _ w).alloc (Nat.le_refl _) _)
  have hz : zQ.cells = #[.int .i64 0, .int .i64 0, .bool false, .bool false, .bool false, .bool false, .bool false, .bool false, .bool false, .bool false, .string { data := #[] }, .string { data := #[] }, .string { data := #[] }, .string { data := #[] }] := rfl
  rw [hz] at HQ HB
  clear hz hd
  go_enter Try.func57, Try.ntmps57
  go_wp2_with fail
  refine (many.calls dims false _ hm).mono ?_
  rintro e w2 ⟨rfl, rfl⟩
  obtain ⟨c0, c1, c2, c3, c4, c5, c6, c7, c8, c9, c10, c11, c12, c13⟩ := HQ.out.all
  have e0 := HQ.out.fr 0
  have e1 := HQ.out.fr 1
  have e2 := HQ.out.fr 2
  have e3 := HQ.out.fr 3
  have e4 := HQ.out.fr 4
  have e5 := HQ.out.fr 5
  have e6 := HQ.out.fr 6
  have e7 := HQ.out.fr 7
  have e8 := HQ.out.fr 8
  have e9 := HQ.out.fr 9
  have e10 := HQ.out.fr 10
  have e11 := HQ.out.fr 11
  have e12 := HQ.out.fr 12
  have e13 := HQ.out.fr 13
  go_wp2
  refine bodyPost_ret (results_ct rfl _ _ w.heap.size 58 _ (0, 0) _ rfl HQ.out.blk Try.underlying58 rfl (by kernel_rfl)) rfl ⟨rfl, HB.out⟩
set_option maxHeartbeats 8000000 in
set_option maxRecDepth 100000 in
theorem Read_in.calls (A0 : Option Addr) (c0 : Nat) (l : List Int) (n : Nat) (rq : Qy) (rf : Int) (w : World) (hC : Kd.C (Kd.int .u8) w A0 l.length l) (hc : l.length ≤ c0) (hl : l.length ≤ 1073741824) (hb : bytesP (l, 0)) (h1 : 1 ≤ n) (h4 : n ≤ 4) (hr : readV l n = (rq, rf)) :
    Calls Try.prog 57 #[.slice A0 l.length c0, .int .i64 n] w fun e w' => e = .returned (.tuple #[.agg rq.cells, .int .i64 rf]) ∧ Below w.heap.size w w' := by
  have hm : (decide (1 ≤ (n : Int)) && decide ((n : Int) ≤ 4)) = true := by simp; omega
  have HQ := Aside0.mk (QB.new zQ w)
  have HB := Aside0.mk (show Below w.heap.size w (w.alloc (.cells zQ.cells 58 (0, 0))) from (Below.refl _ w).alloc (Nat.le_refl _) _)
  have HC := Aside0.mk (Kd.C_below hC ((Below.refl _ _).alloc (Nat.le_refl _) (.cells zQ.cells 58 (0, 0))))
  have hz : zQ.cells = #[.int .i64 0, .int .i64 0, .bool false, .bool false, .bool false, .bool false, .bool false, .bool false, .bool false, .bool false, .string { data := #[] }, .string { data := #[] }, .string { data := #[] }, .string { data := #[] }] := rfl
  rw [hz] at HQ HB HC
  clear hz hC
  unfold readV at hr
  rw [if_neg (by omega), Int.toNat_natCast] at hr
  have HA := Aside0.mk hr
  have HY := Aside0.mk hb
  clear hr hb
  go_enter Try.func57, Try.ntmps57
  go_wp2_with fail
  refine (many.calls n true _ hm).mono ?_
  rintro e w2 ⟨rfl, rfl⟩
  go_wp2_with fail
  refine (NewReader.calls A0 c0 l _ HC.out hc hl).mono ?_
  rintro e w2 ⟨g, rfl, hg, hR, hb⟩
  have HG := Aside0.mk (show w.heap.size < g by simp at hg; omega)
  have H := Aside0.mk (show RS w.heap.size g zQ (l, 0) w w2 from ⟨HQ.out.below hb, hR, below_step HB.out hb⟩)
  clear hg hR hb HC HQ HB hm
  have hgw : w.heap.size ≤ g := by have := HG.out; omega
  go_wp2_with fail
  refine (H.out.num HG.out HY.out).mono ?_
  rintro e w3 ⟨rfl, hh⟩
  have H2 := Aside0.mk hh
  have HY2 := Aside0.mk (bytes_num HY.out)
  clear hh H
  go_wp2_with fail
  refine (H2.out.num HG.out HY2.out).mono ?_
  rintro e w4 ⟨rfl, hh⟩
  have H := Aside0.mk hh
  have HY3 := Aside0.mk (bytes_num HY2.out)
  have ha0 := numS_range HY.out
  have hb0 := numS_range HY2.out
  clear hh H2 HY HY2
  generalize (numS (l, 0)).1 = a at HA ha0 ⊢
  generalize (numS (numS (l, 0)).2).1 = b at HA hb0 ⊢
  generalize (numS (numS (l, 0)).2).2 = s at HA H HY3 ⊢
  go_wp2
  go_loopw [10, 25] (fun x10 x25 wr => ∃ i : Nat, x25 = .int .i64 i ∧ i ≤ n ∧ Aside0 (RS w.heap.size g (qR s 0 0 i) (dS s i) w wr)) (fun _ x25 _ => n - (intOf x25).toNat)
  case atStart => exact ⟨0, rfl, by omega, ⟨H.out.eq (qR0 s 0 0).symm rfl⟩⟩
  case round =>
    clear H
    obtain ⟨i, rfl, hi, H⟩ := hrel
    by_cases d : i < n
    · have dl : decide ((i : Int) < (n : Int)) = true := decide_eq_true (by omega)
      have d4 : i < 4 := by omega
      have b1 : (0 : Int) ≤ (i : Int) := by omega
      have b2 : (i : Int) < 4 := by omega
      have hw : wrap64 ((i : Int) + 1) = ((i + 1 : Nat) : Int) := by unfold wrap64; omega
      obtain ⟨x, hx⟩ : ∃ x, (dH (dS s i)).1 = x := ⟨_, rfl⟩
      go_wp2_with fail
      refine start_ (n := 12) (S := fun w' => True) (ds := [11]) #[false, false, false, false, false, false, false, false, false, false, false, false] (by kernel_rfl) rfl rfl trivial (fun hHeld => ?_)
      refine with_tabW aread.tab9 aread.bits9 (fun HT_ HW_ => ?_)
      replace H := Aside0.mk (H.out.below (below_drew1 (Below.refl _ wr)))
      generalize hW : World.drew _ = W at H ⊢
      clear hW wr
      refine pure_ (i := 0) (N := some 28) (v := ?_) (a' := ?_) #[true, false, false, false, false, false, false, false, false, false, false, false] rfl rfl (any_of HT_.out (by kernel_rfl)) (fun _ _ _ h => h) (Or.inl ⟨by rfl, ?_⟩) ?_ ?_
      rotate_left
      · intro w'
        go_simp
        with_reducible rfl
      rotate_left
      · simp only [Act.put, List.setIfInBounds_toArray, List.set_cons_zero, List.set_cons_succ, i64_w, i32_w]
        rfl
      refine pure_ (i := 1) (N := some 29) (v := ?_) (a' := ?_) #[true, true, false, false, false, false, false, false, false, false, false, false] rfl rfl (any_of HT_.out (by kernel_rfl)) (fun _ _ _ h => h) (Or.inl ⟨by rfl, ?_⟩) ?_ ?_
      rotate_left
      · intro w'
        go_simp
        with_reducible rfl
      rotate_left
      · simp only [Act.put, List.setIfInBounds_toArray, List.set_cons_zero, List.set_cons_succ, i64_w, i32_w]
        rfl
      refine pure_ (i := 2) (N := some 30) (v := ?_) (a' := ?_) #[true, true, true, false, false, false, false, false, false, false, false, false] rfl rfl (any_of HT_.out (by kernel_rfl)) (fun _ _ _ h => h) (Or.inl ⟨by rfl, ?_⟩) ?_ ?_
      rotate_left
      · intro w'
        go_simp
        with_reducible rfl
      rotate_left
      · simp only [Act.put, List.setIfInBounds_toArray, List.set_cons_zero, List.set_cons_succ, i64_w, i32_w]
        rfl
      refine pure_ (i := 4) (N := some 32) (v := ?_) (a' := ?_) #[true, true, true, false, true, false, false, false, false, false, false, false] rfl rfl (any_of HT_.out (by kernel_rfl)) (fun _ _ _ h => h) (Or.inl ⟨by rfl, ?_⟩) ?_ ?_
      rotate_left
      · intro w'
        go_simp
        with_reducible rfl
      rotate_left
      · simp only [Act.put, List.setIfInBounds_toArray, List.set_cons_zero, List.set_cons_succ, i64_w, i32_w]
        rfl
      refine pure_ (i := 6) (N := some 34) (v := ?_) (a' := ?_) #[true, true, true, false, true, false, true, false, false, false, false, false] rfl rfl (any_of HT_.out (by kernel_rfl)) (fun _ _ _ h => h) (Or.inl ⟨by rfl, ?_⟩) ?_ ?_
      rotate_left
      · intro w'
        go_simp
        with_reducible rfl
      rotate_left
      · simp only [Act.put, List.setIfInBounds_toArray, List.set_cons_zero, List.set_cons_succ, i64_w, i32_w]
        rfl
      refine pure_ (i := 9) (N := some 36) (v := ?_) (a' := ?_) #[true, true, true, false, true, false, true, false, false, true, false, false] rfl rfl (any_of HT_.out (by kernel_rfl)) (fun _ _ _ h => h) (Or.inl ⟨by rfl, ?_⟩) ?_ ?_
      rotate_left
      · intro w'
        go_simp
        with_reducible rfl
      rotate_left
      · simp only [Act.put, List.setIfInBounds_toArray, List.set_cons_zero, List.set_cons_succ, i64_w, i32_w]
        rfl
      refine one_ (i := 3) (N := some 31) #[true, true, true, true, true, false, true, false, false, true, false, false] rfl rfl (one_of HT_.out (by kernel_rfl)) (by decide) (fun K hK => ?_)
      refine goesV_ (t := 30) Try.func51 (by kernel_rfl) rfl (by rfl) rfl rfl (by first | done | rfl) ?_
      refine (H.out.flagG HG.out).mono ?_
      rintro e u1 ⟨rfl, hh⟩
      refine ⟨_, rfl, ?_⟩
      have Hu1 := Aside0.mk hh
      clear hh H
      refine hK.out _ _ trivial (fun hHeld => ?_)
      clear hK K
      refine norm_ (a' := ?_) ?_ ?_
      rotate_left
      · show Act.put _ (some 31) _ = _
        simp only [Act.put, List.setIfInBounds_toArray, List.set_cons_zero, List.set_cons_succ, i64_w, i32_w]
        rfl
      refine pure_ (i := 7) (N := some 35) (v := ?_) (a' := ?_) #[true, true, true, true, true, false, true, true, false, true, false, false] rfl rfl (any_of HT_.out (by kernel_rfl)) (fun _ _ _ h => h) (Or.inl ⟨by rfl, ?_⟩) ?_ ?_
      rotate_left
      · intro w'
        go_simp
        with_reducible rfl
      rotate_left
      · simp only [Act.put, List.setIfInBounds_toArray, List.set_cons_zero, List.set_cons_succ, i64_w, i32_w]
        rfl
      refine one_ (i := 5) (N := some 33) #[true, true, true, true, true, true, true, true, false, true, false, false] rfl rfl (one_of HT_.out (by kernel_rfl)) (by decide) (fun K hK => ?_)
      refine goesV_ (t := 32) Try.func51 (by kernel_rfl) rfl (by rfl) rfl rfl (by first | done | rfl) ?_
      refine (Hu1.out.flagH x hx HG.out).mono ?_
      rintro e u2 ⟨rfl, hh⟩
      refine ⟨_, rfl, ?_⟩
      have Hu2 := Aside0.mk hh
      clear hh Hu1
      have f1 := Hu2.out.qb.cG d4
      have f2 := Hu2.out.qb.fr (2 + i)
      refine hK.out _ _ trivial (fun hHeld => ?_)
      clear hK K
      refine norm_ (a' := ?_) ?_ ?_
      rotate_left
      · show Act.put _ (some 33) _ = _
        simp only [Act.put, List.setIfInBounds_toArray, List.set_cons_zero, List.set_cons_succ, i64_w, i32_w]
        rfl
      refine one_ (i := 8) (N := none) #[true, true, true, true, true, true, true, true, true, true, false, false] rfl rfl (one_of HT_.out (by kernel_rfl)) (by decide) (fun K hK => ?_)
      refine skip_ (w1 := ?_) (by rfl) rfl ?_ ?_
      rotate_left
      · go_simp
        rfl
      clear f1 f2
      have Hu3 := Aside0.mk (Hu2.out.putG HG.out d4 (dG (dS s i)).1)
      generalize hWW : World.setCell _ _ _ = u3 at Hu3 ⊢
      clear hWW Hu2 u2
      have f1 := Hu3.out.qb.cH d4
      have f2 := Hu3.out.qb.fr (6 + i)
      refine hK.out _ _ trivial (fun hHeld => ?_)
      clear hK K
      refine pure_ (i := 10) (N := some 37) (v := ?_) (a' := ?_) #[true, true, true, true, true, true, true, true, true, true, true, false] rfl rfl (any_of HT_.out (by kernel_rfl)) (fun _ _ _ h => h) (Or.inl ⟨by rfl, ?_⟩) ?_ ?_
      rotate_left
      · intro w'
        go_simp
        with_reducible rfl
      rotate_left
      · simp only [Act.put, List.setIfInBounds_toArray, List.set_cons_zero, List.set_cons_succ, i64_w, i32_w]
        rfl
      refine last_ (i := 11) (N := none) #[true, true, true, true, true, true, true, true, true, true, true, true] rfl rfl (by kernel_rfl) (by decide) (fun K hK => ?_)
      refine skip_ (w1 := ?_) (by rfl) rfl ?_ ?_
      rotate_left
      · go_simp
        rfl
      clear f1 f2
      have Hu4 := Aside0.mk (Hu3.out.putH HG.out d4 x)
      generalize hWW : World.setCell _ _ _ = u4 at Hu4 ⊢
      clear hWW Hu3 u3
      refine hK.out _ _ ?_
      clear hK K
      refine done_ (done_of HT_.out (by kernel_rfl)) ?_

      clear hHeld
      have f1 := Hu4.out.qb.cH d4
      have f3 : (Qy.setH (Qy.setG (qR s 0 0 i) i (dG (dS s i)).1) i x).H i = x := by simp [Qy.setH, up]
      rw [f3] at f1
      clear f3
      cases x
      · go_wp2
        go_roundw
        case rel => exact ⟨i + 1, rfl, by omega, ⟨Hu4.out.eq (qR_step_no s 0 0 d4 hx) (dS_no s i hx)⟩⟩
        case measure => simp only [intOf]; omega
      · go_wp2_with fail
        refine (Hu4.out.text HG.out (bytes_H (bytes_S HY3.out i))).mono ?_
        rintro e u5 ⟨rfl, hh⟩
        have Hu5 := Aside0.mk hh
        clear hh f1
        have f1 := Hu5.out.qb.cT d4
        have f2 := Hu5.out.qb.fr (10 + i)
        go_wp2
        go_roundw
        case rel => exact ⟨i + 1, rfl, by omega, ⟨(Hu5.out.putT HG.out d4 _).eq (qR_step s 0 0 d4 hx) (dS_yes s i hx)⟩⟩
        case measure => simp only [intOf]; omega
    · obtain rfl : i = n := by omega
      have dl : decide ((i : Int) < (i : Int)) = false := decide_eq_false (by omega)
      have HQ := Aside0.mk (show (qR s a b i) = ⟨a, b, (qR s 0 0 i).G, (qR s 0 0 i).H, (qR s 0 0 i).T⟩ from rfl)
      generalize qR s a b i = qq at HA HQ
      generalize qR s 0 0 i = q0 at H HQ
      generalize dS s i = t at H HA
      go_wp2_with fail
      refine (Fault.calls g _ _ _ H.out.r).mono ?_
      rintro e w5 ⟨rfl, hb⟩
      have H5 := Aside0.mk (H.out.below hb)
      clear hb H
      by_cases cf : t.2 = 0
      · have cfb : (t.2 != 0) = false := bne_eq_false_iff_eq.mpr cf
        go_wp2_with fail
        refine (Left.calls g _ _ _ H5.out.r).mono ?_
        rintro e w6 ⟨rfl, hb⟩
        have H6 := Aside0.mk (H5.out.below hb)
        clear hb H5
        by_cases cl : 0 < t.1.length
        · have cl1 : decide (((t.1.length : Nat) : Int) > 0) = true := decide_eq_true (by omega)
          have cl2 : decide (0 < ((t.1.length : Nat) : Int)) = true := decide_eq_true (by omega)
          obtain ⟨c0, c1, c2, c3, c4, c5, c6, c7, c8, c9, c10, c11, c12, c13⟩ := H6.out.qb.all
          have e0 := H6.out.qb.fr 0
          have e1 := H6.out.qb.fr 1
          have e2 := H6.out.qb.fr 2
          have e3 := H6.out.qb.fr 3
          have e4 := H6.out.qb.fr 4
          have e5 := H6.out.qb.fr 5
          have e6 := H6.out.qb.fr 6
          have e7 := H6.out.qb.fr 7
          have e8 := H6.out.qb.fr 8
          have e9 := H6.out.qb.fr 9
          have e10 := H6.out.qb.fr 10
          have e11 := H6.out.qb.fr 11
          have e12 := H6.out.qb.fr 12
          have e13 := H6.out.qb.fr 13
          go_wp2
          have hF := fin14 (p := w.heap.size) (B := w.heap.size) (w0 := w) zQ H6.out.qb.blk H6.out.b (Nat.le_refl _)
          refine bodyPost_ret (results_ct rfl _ _ w.heap.size 58 _ (0, 0) _ rfl hF.heap Try.underlying58 rfl (by kernel_rfl)) rfl ⟨?_, hF.below⟩
          have hA := HA.out
          unfold endV at hA; rw [if_neg (by omega), if_pos cl] at hA; cases hA; rfl
        · have cl1 : decide (((t.1.length : Nat) : Int) > 0) = false := decide_eq_false (by omega)
          have cl2 : decide (0 < ((t.1.length : Nat) : Int)) = false := decide_eq_false (by omega)
          by_cases cr : 4611686018427387904 < a ∨ 4611686018427387904 < b
          · cases g1 : decide (4611686018427387904 < a) <;> cases g2 : decide (4611686018427387904 < b)
            · simp at g1 g2; omega
            all_goals
              (have g3 : decide (a > 4611686018427387904) = decide (4611686018427387904 < a) := rfl
               have g4 : decide (b > 4611686018427387904) = decide (4611686018427387904 < b) := rfl
               rw [g1] at g3
               rw [g2] at g4
               obtain ⟨c0, c1, c2, c3, c4, c5, c6, c7, c8, c9, c10, c11, c12, c13⟩ := H6.out.qb.all
               have e0 := H6.out.qb.fr 0
               have e1 := H6.out.qb.fr 1
               have e2 := H6.out.qb.fr 2
               have e3 := H6.out.qb.fr 3
               have e4 := H6.out.qb.fr 4
               have e5 := H6.out.qb.fr 5
               have e6 := H6.out.qb.fr 6
               have e7 := H6.out.qb.fr 7
               have e8 := H6.out.qb.fr 8
               have e9 := H6.out.qb.fr 9
               have e10 := H6.out.qb.fr 10
               have e11 := H6.out.qb.fr 11
               have e12 := H6.out.qb.fr 12
               have e13 := H6.out.qb.fr 13
               go_wp2
               have hF := fin14 (p := w.heap.size) (B := w.heap.size) (w0 := w) zQ H6.out.qb.blk H6.out.b (Nat.le_refl _)
               refine bodyPost_ret (results_ct rfl _ _ w.heap.size 58 _ (0, 0) _ rfl hF.heap Try.underlying58 rfl (by kernel_rfl)) rfl ⟨?_, hF.below⟩
               have hA := HA.out
               unfold endV at hA; rw [if_neg (by omega), if_neg cl, if_pos cr] at hA; cases hA; rfl)
          · have g1 : decide (4611686018427387904 < a) = false := decide_eq_false (by omega)
            have g2 : decide (4611686018427387904 < b) = false := decide_eq_false (by omega)
            have g3 : decide (a > 4611686018427387904) = false := decide_eq_false (by omega)
            have g4 : decide (b > 4611686018427387904) = false := decide_eq_false (by omega)
            have hwa : IntKind.i64.wrap a = a := by rw [wrap_eq]; unfold wrap64; omega
            have hwb : IntKind.i64.wrap b = b := by rw [wrap_eq]; unfold wrap64; omega
            have hwc : wrap64 a = a := by unfold wrap64; omega
            have hwd : wrap64 b = b := by unfold wrap64; omega
            obtain ⟨c, hch⟩ : ∃ c, chkQ qq i = c := ⟨_, rfl⟩
            have HD := Aside0.mk hch
            have HR := Aside0.mk (⟨cf, cl, cr⟩ : t.2 = 0 ∧ ¬ 0 < t.1.length ∧ ¬ (4611686018427387904 < a ∨ 4611686018427387904 < b))
            clear hch cf cr
            have H7 := Aside0.mk ((H6.out.putA HG.out a).putB HG.out b)
            rw [← HQ.out] at H7
            obtain ⟨c0, c1, c2, c3, c4, c5, c6, c7, c8, c9, c10, c11, c12, c13⟩ := H6.out.qb.all
            have e0 := H6.out.qb.fr 0
            have e1 := H6.out.qb.fr 1
            go_wp2_with fail
            have hK := Check.calls qq i c ((w6.setCell ⟨w.heap.size, 0, none⟩ (.int .i64 a)).setCell ⟨w.heap.size, 1, none⟩ (.int .i64 b)) HD.out
            rw [HQ.out] at hK
            refine hK.mono ?_
            clear hK
            rintro e w7 ⟨rfl, hb⟩
            have H8 := Aside0.mk (H7.out.below hb)
            clear hb H7 H6 c0 c1 c2 c3 c4 c5 c6 c7 c8 c9 c10 c11 c12 c13 e0 e1 HQ
            by_cases cc : c = 0
            · have ccb : (c != 0) = false := bne_eq_false_iff_eq.mpr cc
              obtain ⟨c0, c1, c2, c3, c4, c5, c6, c7, c8, c9, c10, c11, c12, c13⟩ := H8.out.qb.all
              have e0 := H8.out.qb.fr 0
              have e1 := H8.out.qb.fr 1
              have e2 := H8.out.qb.fr 2
              have e3 := H8.out.qb.fr 3
              have e4 := H8.out.qb.fr 4
              have e5 := H8.out.qb.fr 5
              have e6 := H8.out.qb.fr 6
              have e7 := H8.out.qb.fr 7
              have e8 := H8.out.qb.fr 8
              have e9 := H8.out.qb.fr 9
              have e10 := H8.out.qb.fr 10
              have e11 := H8.out.qb.fr 11
              have e12 := H8.out.qb.fr 12
              have e13 := H8.out.qb.fr 13
              go_wp2
              have hF := fin14 (p := w.heap.size) (B := w.heap.size) (w0 := w) qq H8.out.qb.blk H8.out.b (Nat.le_refl _)
              refine bodyPost_ret (results_ct rfl _ _ w.heap.size 58 _ (0, 0) _ rfl hF.heap Try.underlying58 rfl (by kernel_rfl)) rfl ⟨?_, hF.below⟩
              have hA := HA.out
              unfold endV at hA; rw [if_neg (by have := HR.out.1; omega), if_neg HR.out.2.1, if_neg HR.out.2.2, if_neg (by have := HD.out; omega)] at hA; cases hA; rfl
            · have ccb : (c != 0) = true := bne_iff_ne.mpr cc
              obtain ⟨c0, c1, c2, c3, c4, c5, c6, c7, c8, c9, c10, c11, c12, c13⟩ := H8.out.qb.all
              have e0 := H8.out.qb.fr 0
              have e1 := H8.out.qb.fr 1
              have e2 := H8.out.qb.fr 2
              have e3 := H8.out.qb.fr 3
              have e4 := H8.out.qb.fr 4
              have e5 := H8.out.qb.fr 5
              have e6 := H8.out.qb.fr 6
              have e7 := H8.out.qb.fr 7
              have e8 := H8.out.qb.fr 8
              have e9 := H8.out.qb.fr 9
              have e10 := H8.out.qb.fr 10
              have e11 := H8.out.qb.fr 11
              have e12 := H8.out.qb.fr 12
              have e13 := H8.out.qb.fr 13
              go_wp2
              have hF := fin14 (p := w.heap.size) (B := w.heap.size) (w0 := w) zQ H8.out.qb.blk H8.out.b (Nat.le_refl _)
              refine bodyPost_ret (results_ct rfl _ _ w.heap.size 58 _ (0, 0) _ rfl hF.heap Try.underlying58 rfl (by kernel_rfl)) rfl ⟨?_, hF.below⟩
              have hA := HA.out
              unfold endV at hA; rw [if_neg (by have := HR.out.1; omega), if_neg HR.out.2.1, if_neg HR.out.2.2, if_pos (by have := HD.out; omega), HD.out] at hA; cases hA; rfl
      · have cfb : (t.2 != 0) = true := bne_iff_ne.mpr cf
        go_wp2_with fail
        refine (Fault.calls g _ _ _ H5.out.r).mono ?_
        rintro e w6 ⟨rfl, hb⟩
        have H6 := Aside0.mk (H5.out.below hb)
        clear hb H5
        obtain ⟨c0, c1, c2, c3, c4, c5, c6, c7, c8, c9, c10, c11, c12, c13⟩ := H6.out.qb.all
        have e0 := H6.out.qb.fr 0
        have e1 := H6.out.qb.fr 1
        have e2 := H6.out.qb.fr 2
        have e3 := H6.out.qb.fr 3
        have e4 := H6.out.qb.fr 4
        have e5 := H6.out.qb.fr 5
        have e6 := H6.out.qb.fr 6
        have e7 := H6.out.qb.fr 7
        have e8 := H6.out.qb.fr 8
        have e9 := H6.out.qb.fr 9
        have e10 := H6.out.qb.fr 10
        have e11 := H6.out.qb.fr 11
        have e12 := H6.out.qb.fr 12
        have e13 := H6.out.qb.fr 13
        go_wp2
        have hF := fin14 (p := w.heap.size) (B := w.heap.size) (w0 := w) zQ H6.out.qb.blk H6.out.b (Nat.le_refl _)
        refine bodyPost_ret (results_ct rfl _ _ w.heap.size 58 _ (0, 0) _ rfl hF.heap Try.underlying58 rfl (by kernel_rfl)) rfl ⟨?_, hF.below⟩
        have hA := HA.out
        unfold endV at hA; rw [if_pos cf] at hA; cases hA; rfl
end As
end Go.Proofs.Ytjegkfdcelodeaa.P
