import Derived.Test.YtiokjjadpobciaaDr0
namespace Go.Proofs.Ytiokjjadpobciaa.P
open Go.RowKit Go.Conc Go.Proofs.YtiokjjadpobciaaW.PrintWords Go.Proofs.YtiokjjadpobciaaW.PrintLast Go.Proofs.YtiokjjadpobciaaW.PrintMore
attribute [local go_sem] max2_int min2_int max_two min_two max_three min_three max_four min_four
set_option linter.unusedVariables false
set_option linter.unusedSimpArgs false
namespace Dr
open Ln
/-- A fact with two dimensions. -/
structure Fa where
  h : Int
  a : ByteArray
  b : ByteArray
  v : Int
def Fa.cells (f : Fa) : Array Value := #[.int .i64 f.h, .string f.a, .string f.b, .string { data := #[] }, .string { data := #[] }, .int .i64 f.v]
def regV (i : Int) : ByteArray := if i = 0 then { data := #[101, 117] } else if i = 1 then { data := #[117, 115] } else { data := #[97, 112] }
def appV (i : Int) : ByteArray := if i = 0 then { data := #[119, 101, 98] } else { data := #[97, 112, 112] }
def hourV (x hour : Int) : Int := if thr x 4 < hour then hour - thr x 4 else 0
def factV (x hour : Int) : Fa := ⟨hourV x hour, regV (thr (nxt x) 3), appV (thr (nxt (nxt x)) 2), thr (nxt (nxt (nxt x))) 100 - 20⟩
def nxt4 (x : Int) : Int := nxt (nxt (nxt (nxt x)))
/-- Dice, the fact at p, and the two arrays behind it. -/
structure F3 (B g p : Nat) (x : Int) (cs : Array Value) (w0 w00 W : World) : Prop where
  d : DB g x W
  bf : W.heap[p]? = some (.cells cs 88 (0, 0))
  br : W.heap[p + 1]? = some (.cells #[.string { data := #[101, 117] }, .string { data := #[117, 115] }, .string { data := #[97, 112] }] 107 (0, 0))
  ba : W.heap[p + 1 + 1]? = some (.cells #[.string { data := #[119, 101, 98] }, .string { data := #[97, 112, 112] }] 108 (0, 0))
  b : Below B w0 W
  f : Far w00 W (fun k => k = g)
theorem Far.alloc3 {w w' : World} {S : Nat → Prop} (h : Far w w' S) (o1 o2 o3 : Obj) : Far w (((w'.alloc o1).alloc o2).alloc o3) S :=
  h.trans (Far.below ((((Below.refl _ w').alloc (Nat.le_refl _) o1).alloc (by simp) o2).alloc (by simp; omega) o3) (fun _ => False)) (fun _ _ e => e.elim)
theorem F3.next {B g p : Nat} {x : Int} {cs : Array Value} {w0 w00 w : World} (h : F3 B g p x cs w0 w00 w) (hB : B ≤ g) (hg : g < p) (n : Int) (hn : 1 ≤ n) (hn2 : n < 9223372036854775808) :
    Calls Try.prog 33 #[.pointer (some ⟨g, 0, none⟩), .int .i64 n] w fun e w' => e = .returned (.int .i64 (thr x n)) ∧ F3 B g p (nxt x) cs w0 w00 w' :=
  (Next.calls B g x n w0 w hn hn2 h.b hB h.d).mono fun e w' k => ⟨k.1, ⟨k.2.1, k.2.2.2.blk h.bf (by omega), k.2.2.2.blk h.br (by omega), k.2.2.2.blk h.ba (by omega), k.2.2.1, h.f.trans k.2.2.2 (fun _ _ e => e)⟩⟩
theorem F3.put {B g p : Nat} {x : Int} {cs cs' : Array Value} {w0 w00 w : World} (h : F3 B g p x cs w0 w00 w) (hg : g < p) (hB : B ≤ g) (hp : w00.heap.size ≤ p) (i : Nat) (u : Value) (e : cs.setIfInBounds i u = cs') : F3 B g p x cs' w0 w00 (w.setCell ⟨p, i, none⟩ u) :=
  ⟨⟨blk_far h.d.blk (p := ⟨p, i, none⟩) (by simp; omega) u⟩, blk_put h.bf i u e, blk_far h.br (p := ⟨p, i, none⟩) (by simp) u, blk_far h.ba (p := ⟨p, i, none⟩) (by simp; omega) u, h.b.setCell (p := ⟨p, i, none⟩) (by simp; omega) u, Far.setCell h.f (p := ⟨p, i, none⟩) (.inl hp) u⟩
theorem F3.reg {B g p : Nat} {x : Int} {cs : Array Value} {w0 w00 w : World} (h : F3 B g p x cs w0 w00 w) (n : Nat) (hn : n < 3) : w.cell? ⟨p + 1, n, none⟩ = some (.string (regV n)) := by
  match n, hn with
  | 0, _ => exact blk_cell h.br 0
  | 1, _ => exact blk_cell h.br 1
  | 2, _ => exact blk_cell h.br 2
theorem F3.app {B g p : Nat} {x : Int} {cs : Array Value} {w0 w00 w : World} (h : F3 B g p x cs w0 w00 w) (n : Nat) (hn : n < 2) : w.cell? ⟨p + 1 + 1, n, none⟩ = some (.string (appV n)) := by
  match n, hn with
  | 0, _ => exact blk_cell h.ba 0
  | 1, _ => exact blk_cell h.ba 1
theorem nat_of (i m : Int) (h : 0 ≤ i ∧ i < m) : ∃ n : Nat, i = n ∧ (n : Int) < m := ⟨i.toNat, by omega, by omega⟩
set_option maxHeartbeats 8000000 in
set_option maxRecDepth 100000 in
theorem Fact.calls (B g : Nat) (x hour : Int) (w0 w : World) (h0 : 0 ≤ hour) (h1 : hour ≤ 16777216) (hB : Below B w0 w) (hg : B ≤ g) (hD : DB g x w) :
    Calls Try.prog 46 #[.pointer (some ⟨g, 0, none⟩), .int .i64 hour] w fun e w' => e = .returned (.agg (factV x hour).cells) ∧ DB g (nxt4 x) w' ∧ Below B w0 w' ∧ Far w w' (fun k => k = g) := by
  have hgw := blk_lt hD.blk
  have HD := Aside0.mk hD
  have HB := Aside0.mk hB
  clear hD hB
  have d1 : decide (hour < 0) = false := decide_eq_false (by omega)
  have d2 : decide (16777216 < hour) = false := decide_eq_false (by omega)
  have d3 : decide (hour > 16777216) = false := decide_eq_false (by omega)
  go_enter Try.func46, Try.ntmps46
  have H := Aside0.mk (show F3 B g w.heap.size x #[.int .i64 0, .string { data := #[] }, .string { data := #[] }, .string { data := #[] }, .string { data := #[] }, .int .i64 0] w0 w (((w.alloc (.cells #[.int .i64 0, .string { data := #[] }, .string { data := #[] }, .string { data := #[] }, .string { data := #[] }, .int .i64 0] 88 (0, 0))).alloc (.cells #[.string { data := #[101, 117] }, .string { data := #[117, 115] }, .string { data := #[97, 112] }] 107 (0, 0))).alloc (.cells #[.string { data := #[119, 101, 98] }, .string { data := #[97, 112, 112] }] 108 (0, 0))) from
    ⟨⟨blk_alloc (blk_alloc (blk_alloc HD.out.blk _) _) _⟩, blk_alloc (blk_alloc (blk_new w _) _) _, blk_alloc (by simpa using blk_new (w.alloc (.cells #[.int .i64 0, .string { data := #[] }, .string { data := #[] }, .string { data := #[] }, .string { data := #[] }, .int .i64 0] 88 (0, 0))) (.cells #[.string { data := #[101, 117] }, .string { data := #[117, 115] }, .string { data := #[97, 112] }] 107 (0, 0))) _,
     by simpa using blk_new ((w.alloc (.cells #[.int .i64 0, .string { data := #[] }, .string { data := #[] }, .string { data := #[] }, .string { data := #[] }, .int .i64 0] 88 (0, 0))).alloc (.cells #[.string { data := #[101, 117] }, .string { data := #[117, 115] }, .string { data := #[97, 112] }] 107 (0, 0))) (.cells #[.string { data := #[119, 101, 98] }, .string { data := #[97, 112, 112] }] 108 (0, 0)),
     ((HB.out.alloc (by omega) _).alloc (by simp; omega) _).alloc (by simp; omega) _, Far.alloc3 (Far.below (Below.refl _ w) _) _ _ _⟩)
  have t4 := thr_bd x 4 (by omega)
  have hw4 : wrap64 (hour - thr x 4) = hour - thr x 4 := by unfold wrap64; omega
  clear HD HB
  go_wp2_with fail
  by_cases hA : thr x 4 < hour
  · have e1 : decide (0 < hour - thr x 4) = true := decide_eq_true (by omega)
    have e2 : decide (thr x 4 < hour) = true := decide_eq_true hA
    refine (H.out.next hg hgw 4 (by omega) (by omega)).mono ?_
    rintro e u ⟨rfl, hh⟩
    replace H := Aside0.mk hh
    clear hh
    have c0 := blk_cell H.out.bf 0
    have r0 := blk_frozen H.out.bf 0
    simp only [List.getElem?_toArray, List.getElem?_cons_zero, List.getElem?_cons_succ] at c0
    go_wp2_with fail
    clear c0 r0
    replace H := Aside0.mk (H.out.put hgw hg (Nat.le_refl _) 0 (.int .i64 (hour - thr x 4)) (cs' := #[.int .i64 (hour - thr x 4), .string { data := #[] }, .string { data := #[] }, .string { data := #[] }, .string { data := #[] }, .int .i64 0]) rfl)
    generalize hW : World.setCell _ _ _ = W at H ⊢
    clear hW
    refine (H.out.next hg hgw 3 (by omega) (by omega)).mono ?_
    rintro e u ⟨rfl, hh⟩
    replace H := Aside0.mk hh
    clear hh
    have c1 := blk_cell H.out.bf 1
    have r1 := blk_frozen H.out.bf 1
    simp only [List.getElem?_toArray, List.getElem?_cons_zero, List.getElem?_cons_succ] at c1
    obtain ⟨n, hn, hn3⟩ := nat_of _ _ (thr_bd (nxt x) 3 (by omega))
    rw [hn]
    have b1 : (0 : Int) ≤ (n : Int) := by omega
    have q1 := H.out.reg n (by omega)
    go_wp2_with fail
    clear c1 r1 q1 b1
    replace H := Aside0.mk (H.out.put hgw hg (Nat.le_refl _) 1 (.string (regV n)) (cs' := #[.int .i64 (hour - thr x 4), .string (regV n), .string { data := #[] }, .string { data := #[] }, .string { data := #[] }, .int .i64 0]) rfl)
    generalize hW : World.setCell _ _ _ = W at H ⊢
    clear hW
    refine (H.out.next hg hgw 2 (by omega) (by omega)).mono ?_
    rintro e u ⟨rfl, hh⟩
    replace H := Aside0.mk hh
    clear hh
    have c2 := blk_cell H.out.bf 2
    have r2 := blk_frozen H.out.bf 2
    simp only [List.getElem?_toArray, List.getElem?_cons_zero, List.getElem?_cons_succ] at c2
    obtain ⟨m, hm, hm2⟩ := nat_of _ _ (thr_bd (nxt (nxt x)) 2 (by omega))
    rw [hm]
    have b1 : (0 : Int) ≤ (m : Int) := by omega
    have q1 := H.out.app m (by omega)
    go_wp2_with fail
    clear c2 r2 q1 b1
    replace H := Aside0.mk (H.out.put hgw hg (Nat.le_refl _) 2 (.string (appV m)) (cs' := #[.int .i64 (hour - thr x 4), .string (regV n), .string (appV m), .string { data := #[] }, .string { data := #[] }, .int .i64 0]) rfl)
    generalize hW : World.setCell _ _ _ = W at H ⊢
    clear hW
    refine (H.out.next hg hgw 100 (by omega) (by omega)).mono ?_
    rintro e u ⟨rfl, hh⟩
    replace H := Aside0.mk hh
    clear hh
    have tb := thr_bd (nxt (nxt (nxt x))) 100 (by omega)
    have hw3 : wrap64 (thr (nxt (nxt (nxt x))) 100 - 20) = thr (nxt (nxt (nxt x))) 100 - 20 := by unfold wrap64; omega
    have c5 := blk_cell H.out.bf 5
    have r5 := blk_frozen H.out.bf 5
    simp only [List.getElem?_toArray, List.getElem?_cons_zero, List.getElem?_cons_succ] at c5
    have c0 := blk_cell H.out.bf 0
    have r0 := blk_frozen H.out.bf 0
    simp only [List.getElem?_toArray, List.getElem?_cons_zero, List.getElem?_cons_succ] at c0
    have c1 := blk_cell H.out.bf 1
    have r1 := blk_frozen H.out.bf 1
    simp only [List.getElem?_toArray, List.getElem?_cons_zero, List.getElem?_cons_succ] at c1
    have c2 := blk_cell H.out.bf 2
    have r2 := blk_frozen H.out.bf 2
    simp only [List.getElem?_toArray, List.getElem?_cons_zero, List.getElem?_cons_succ] at c2
    have c3 := blk_cell H.out.bf 3
    have r3 := blk_frozen H.out.bf 3
    simp only [List.getElem?_toArray, List.getElem?_cons_zero, List.getElem?_cons_succ] at c3
    have c4 := blk_cell H.out.bf 4
    have r4 := blk_frozen H.out.bf 4
    simp only [List.getElem?_toArray, List.getElem?_cons_zero, List.getElem?_cons_succ] at c4
    have hv : Fa.cells (factV x hour) = #[.int .i64 (hour - thr x 4), .string (regV n), .string (appV m), .string { data := #[] }, .string { data := #[] }, .int .i64 (thr (nxt (nxt (nxt x))) 100 - 20)] := by unfold factV hourV Fa.cells; rw [if_pos (by omega), hn, hm]
    have HV := Aside0.mk hv
    clear hv
    go_wp2
    have hF := H.out.put hgw hg (Nat.le_refl _) 5 (.int .i64 (thr (nxt (nxt (nxt x))) 100 - 20)) (cs' := #[.int .i64 (hour - thr x 4), .string (regV n), .string (appV m), .string { data := #[] }, .string { data := #[] }, .int .i64 (thr (nxt (nxt (nxt x))) 100 - 20)]) rfl
    replace hF := hF.put hgw hg (Nat.le_refl _) 0 (.int .i64 (hour - thr x 4)) (cs' := #[.int .i64 (hour - thr x 4), .string (regV n), .string (appV m), .string { data := #[] }, .string { data := #[] }, .int .i64 (thr (nxt (nxt (nxt x))) 100 - 20)]) rfl
    replace hF := hF.put hgw hg (Nat.le_refl _) 1 (.string (regV n)) (cs' := #[.int .i64 (hour - thr x 4), .string (regV n), .string (appV m), .string { data := #[] }, .string { data := #[] }, .int .i64 (thr (nxt (nxt (nxt x))) 100 - 20)]) rfl
    replace hF := hF.put hgw hg (Nat.le_refl _) 2 (.string (appV m)) (cs' := #[.int .i64 (hour - thr x 4), .string (regV n), .string (appV m), .string { data := #[] }, .string { data := #[] }, .int .i64 (thr (nxt (nxt (nxt x))) 100 - 20)]) rfl
    replace hF := hF.put hgw hg (Nat.le_refl _) 3 (.string { data := #[] }) (cs' := #[.int .i64 (hour - thr x 4), .string (regV n), .string (appV m), .string { data := #[] }, .string { data := #[] }, .int .i64 (thr (nxt (nxt (nxt x))) 100 - 20)]) rfl
    replace hF := hF.put hgw hg (Nat.le_refl _) 4 (.string { data := #[] }) (cs' := #[.int .i64 (hour - thr x 4), .string (regV n), .string (appV m), .string { data := #[] }, .string { data := #[] }, .int .i64 (thr (nxt (nxt (nxt x))) 100 - 20)]) rfl
    replace hF := hF.put hgw hg (Nat.le_refl _) 5 (.int .i64 (thr (nxt (nxt (nxt x))) 100 - 20)) (cs' := #[.int .i64 (hour - thr x 4), .string (regV n), .string (appV m), .string { data := #[] }, .string { data := #[] }, .int .i64 (thr (nxt (nxt (nxt x))) 100 - 20)]) rfl
    refine bodyPost_ret (results_cell_row rfl _ _ w.heap.size 88 _ (0, 0) _ rfl hF.bf Try.underlying88 rfl (by kernel_rfl)) rfl ⟨by rw [HV.out], hF.d, hF.b, hF.f⟩
  · have e1 : decide (0 < hour - thr x 4) = false := decide_eq_false (by omega)
    have e2 : decide (thr x 4 < hour) = false := decide_eq_false hA
    refine (H.out.next hg hgw 4 (by omega) (by omega)).mono ?_
    rintro e u ⟨rfl, hh⟩
    replace H := Aside0.mk hh
    clear hh
    have c0 := blk_cell H.out.bf 0
    have r0 := blk_frozen H.out.bf 0
    simp only [List.getElem?_toArray, List.getElem?_cons_zero, List.getElem?_cons_succ] at c0
    go_wp2_with fail
    clear c0 r0
    replace H := Aside0.mk (H.out.put hgw hg (Nat.le_refl _) 0 (.int .i64 (0)) (cs' := #[.int .i64 (0), .string { data := #[] }, .string { data := #[] }, .string { data := #[] }, .string { data := #[] }, .int .i64 0]) rfl)
    generalize hW : World.setCell _ _ _ = W at H ⊢
    clear hW
    refine (H.out.next hg hgw 3 (by omega) (by omega)).mono ?_
    rintro e u ⟨rfl, hh⟩
    replace H := Aside0.mk hh
    clear hh
    have c1 := blk_cell H.out.bf 1
    have r1 := blk_frozen H.out.bf 1
    simp only [List.getElem?_toArray, List.getElem?_cons_zero, List.getElem?_cons_succ] at c1
    obtain ⟨n, hn, hn3⟩ := nat_of _ _ (thr_bd (nxt x) 3 (by omega))
    rw [hn]
    have b1 : (0 : Int) ≤ (n : Int) := by omega
    have q1 := H.out.reg n (by omega)
    go_wp2_with fail
    clear c1 r1 q1 b1
    replace H := Aside0.mk (H.out.put hgw hg (Nat.le_refl _) 1 (.string (regV n)) (cs' := #[.int .i64 (0), .string (regV n), .string { data := #[] }, .string { data := #[] }, .string { data := #[] }, .int .i64 0]) rfl)
    generalize hW : World.setCell _ _ _ = W at H ⊢
    clear hW
    refine (H.out.next hg hgw 2 (by omega) (by omega)).mono ?_
    rintro e u ⟨rfl, hh⟩
    replace H := Aside0.mk hh
    clear hh
    have c2 := blk_cell H.out.bf 2
    have r2 := blk_frozen H.out.bf 2
    simp only [List.getElem?_toArray, List.getElem?_cons_zero, List.getElem?_cons_succ] at c2
    obtain ⟨m, hm, hm2⟩ := nat_of _ _ (thr_bd (nxt (nxt x)) 2 (by omega))
    rw [hm]
    have b1 : (0 : Int) ≤ (m : Int) := by omega
    have q1 := H.out.app m (by omega)
    go_wp2_with fail
    clear c2 r2 q1 b1
    replace H := Aside0.mk (H.out.put hgw hg (Nat.le_refl _) 2 (.string (appV m)) (cs' := #[.int .i64 (0), .string (regV n), .string (appV m), .string { data := #[] }, .string { data := #[] }, .int .i64 0]) rfl)
    generalize hW : World.setCell _ _ _ = W at H ⊢
    clear hW
    refine (H.out.next hg hgw 100 (by omega) (by omega)).mono ?_
    rintro e u ⟨rfl, hh⟩
    replace H := Aside0.mk hh
    clear hh
    have tb := thr_bd (nxt (nxt (nxt x))) 100 (by omega)
    have hw3 : wrap64 (thr (nxt (nxt (nxt x))) 100 - 20) = thr (nxt (nxt (nxt x))) 100 - 20 := by unfold wrap64; omega
    have c5 := blk_cell H.out.bf 5
    have r5 := blk_frozen H.out.bf 5
    simp only [List.getElem?_toArray, List.getElem?_cons_zero, List.getElem?_cons_succ] at c5
    have c0 := blk_cell H.out.bf 0
    have r0 := blk_frozen H.out.bf 0
    simp only [List.getElem?_toArray, List.getElem?_cons_zero, List.getElem?_cons_succ] at c0
    have c1 := blk_cell H.out.bf 1
    have r1 := blk_frozen H.out.bf 1
    simp only [List.getElem?_toArray, List.getElem?_cons_zero, List.getElem?_cons_succ] at c1
    have c2 := blk_cell H.out.bf 2
    have r2 := blk_frozen H.out.bf 2
    simp only [List.getElem?_toArray, List.getElem?_cons_zero, List.getElem?_cons_succ] at c2
    have c3 := blk_cell H.out.bf 3
    have r3 := blk_frozen H.out.bf 3
    simp only [List.getElem?_toArray, List.getElem?_cons_zero, List.getElem?_cons_succ] at c3
    have c4 := blk_cell H.out.bf 4
    have r4 := blk_frozen H.out.bf 4
    simp only [List.getElem?_toArray, List.getElem?_cons_zero, List.getElem?_cons_succ] at c4
    have hv : Fa.cells (factV x hour) = #[.int .i64 (0), .string (regV n), .string (appV m), .string { data := #[] }, .string { data := #[] }, .int .i64 (thr (nxt (nxt (nxt x))) 100 - 20)] := by unfold factV hourV Fa.cells; rw [if_neg (by omega), hn, hm]
    have HV := Aside0.mk hv
    clear hv
    go_wp2
    have hF := H.out.put hgw hg (Nat.le_refl _) 5 (.int .i64 (thr (nxt (nxt (nxt x))) 100 - 20)) (cs' := #[.int .i64 (0), .string (regV n), .string (appV m), .string { data := #[] }, .string { data := #[] }, .int .i64 (thr (nxt (nxt (nxt x))) 100 - 20)]) rfl
    replace hF := hF.put hgw hg (Nat.le_refl _) 0 (.int .i64 (0)) (cs' := #[.int .i64 (0), .string (regV n), .string (appV m), .string { data := #[] }, .string { data := #[] }, .int .i64 (thr (nxt (nxt (nxt x))) 100 - 20)]) rfl
    replace hF := hF.put hgw hg (Nat.le_refl _) 1 (.string (regV n)) (cs' := #[.int .i64 (0), .string (regV n), .string (appV m), .string { data := #[] }, .string { data := #[] }, .int .i64 (thr (nxt (nxt (nxt x))) 100 - 20)]) rfl
    replace hF := hF.put hgw hg (Nat.le_refl _) 2 (.string (appV m)) (cs' := #[.int .i64 (0), .string (regV n), .string (appV m), .string { data := #[] }, .string { data := #[] }, .int .i64 (thr (nxt (nxt (nxt x))) 100 - 20)]) rfl
    replace hF := hF.put hgw hg (Nat.le_refl _) 3 (.string { data := #[] }) (cs' := #[.int .i64 (0), .string (regV n), .string (appV m), .string { data := #[] }, .string { data := #[] }, .int .i64 (thr (nxt (nxt (nxt x))) 100 - 20)]) rfl
    replace hF := hF.put hgw hg (Nat.le_refl _) 4 (.string { data := #[] }) (cs' := #[.int .i64 (0), .string (regV n), .string (appV m), .string { data := #[] }, .string { data := #[] }, .int .i64 (thr (nxt (nxt (nxt x))) 100 - 20)]) rfl
    replace hF := hF.put hgw hg (Nat.le_refl _) 5 (.int .i64 (thr (nxt (nxt (nxt x))) 100 - 20)) (cs' := #[.int .i64 (0), .string (regV n), .string (appV m), .string { data := #[] }, .string { data := #[] }, .int .i64 (thr (nxt (nxt (nxt x))) 100 - 20)]) rfl
    refine bodyPost_ret (results_cell_row rfl _ _ w.heap.size 88 _ (0, 0) _ rfl hF.bf Try.underlying88 rfl (by kernel_rfl)) rfl ⟨by rw [HV.out], hF.d, hF.b, hF.f⟩
end Dr
end Go.Proofs.Ytiokjjadpobciaa.P
