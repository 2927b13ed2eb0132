import Derived.Test.YtiokjjadpobciaaDr2
namespace Go.Proofs.Ytiokjjadpobciaa.P
open Go.RowKit Go.Conc Go.Proofs.YtiokjjadpobciaaW.PrintWords Go.Proofs.YtiokjjadpobciaaW.PrintLast Go.Proofs.YtiokjjadpobciaaW.PrintMore
attribute [local go_sem] max2_int min2_int max_two min_two max_three min_three max_four min_four
set_option linter.unusedVariables false
set_option linter.unusedSimpArgs false
namespace Dr
open Ln
theorem add_p (b o k : Nat) : (⟨b, o, none⟩ : Addr).add k = ⟨b, o + k, none⟩ := by unfold Addr.add; simp
theorem lit1 {α : Type} {R : α → List Value → Prop} {size b t : Nat} {W : World} {c : List Value} {x : α} (hb : W.heap[b]? = some (.cells c.toArray t (0, 0))) (hc : c.length = size) (hr : R x c) : ReadsRow R size W (some ⟨b, 0, none⟩) 1 [x] := by
  refine ⟨rfl, by omega, fun _ => ⟨⟨b, 0, none⟩, rfl, fun j p hj => ?_⟩⟩
  match j, hj with
  | 0, hj =>
    obtain rfl := Option.some.inj hj
    refine ⟨c, hc, hr, fun i u hu => ?_⟩
    rw [add_p, blk_cell hb]
    simpa using hu
theorem lit2 {α : Type} {R : α → List Value → Prop} {size b t : Nat} {W : World} {c c' : List Value} {x y : α} (hb : W.heap[b]? = some (.cells (c ++ c').toArray t (0, 0))) (hc : c.length = size) (hc' : c'.length = size) (hr : R x c) (hr' : R y c') : ReadsRow R size W (some ⟨b, 0, none⟩) 2 [x, y] := by
  refine ⟨rfl, by omega, fun _ => ⟨⟨b, 0, none⟩, rfl, fun j p hj => ?_⟩⟩
  match j, hj with
  | 0, hj =>
    obtain rfl := Option.some.inj hj
    refine ⟨c, hc, hr, fun i u hu => ?_⟩
    have hi : i < c.length := by
      rcases Nat.lt_or_ge i c.length with h | h
      · exact h
      · rw [List.getElem?_eq_none h] at hu; cases hu
    rw [add_p, blk_cell hb]
    simp only [List.getElem?_toArray, Nat.zero_mul, Nat.zero_add]
    rw [List.getElem?_append_left hi]
    exact hu
  | 1, hj =>
    obtain rfl := Option.some.inj hj
    refine ⟨c', hc', hr', fun i u hu => ?_⟩
    rw [add_p, blk_cell hb]
    simp only [List.getElem?_toArray, Nat.zero_add, Nat.one_mul]
    rw [List.getElem?_append_right (by omega), ← hc, Nat.add_sub_cancel_left]
    exact hu
def DP (B g d : Nat) (x kind hour : Int) (xs : List Sx) (w0 w : World) : Prop := ∃ v, DS B g d x kind hour v xs w0 w
def okQ (g d : Nat) (v : Value) : Nat → Prop := fun k => (k ≠ g ∧ k ≠ d) ∧ some k ≠ v.ownBlock
theorem putS.calls (B g d : Nat) (x kind hour : Int) (v : Value) (xs : List Sx) (y : Sx) (vf vl : Value) (w0 W : World) (hBd : B ≤ d) (hg : g ≠ d) (h : DS B g d x kind hour v xs w0 W) (hx : xs.length ≤ 60000)
    (hf : Kd.R factK 88 W B (okQ g d v) vf y.fs) (hl : Kd.R Kd.bool 4 W B (okQ g d v) vl y.fl) :
    Calls Try.prog 36 #[.pointer (some ⟨d, 0, none⟩), .slice (some ⟨W.heap.size, 0, none⟩) 1 1] (W.alloc (.cells (stepC y vf vl).toArray 66 (0, 0))) fun e w' => e = .returned (.tuple #[]) ∧ DP B g d x kind hour (xs ++ [y]) w0 w' := by
  have hb : Below W.heap.size W (W.alloc (.cells (stepC y vf vl).toArray 66 (0, 0))) := (Below.refl _ W).alloc (Nat.le_refl _) _
  have hgu := blk_lt h.dice.blk
  exact put.calls B g d x kind hour v xs [y] _ 1 1 (okQ g d v) w0 _ hBd hg (h.below hBd hb) (by omega)
    (lit1 (blk_new W (.cells (stepC y vf vl).toArray 66 (0, 0))) rfl (stepD_M (Kd.R_below hf hb) (Kd.R_below hl hb))) (fun k hk => hk) (by simp; omega)
theorem put1.calls (B g d : Nat) (x kind hour : Int) (v : Value) (xs : List Sx) (k n : Int) (w0 W : World) (hBd : B ≤ d) (hg : g ≠ d) (h : DS B g d x kind hour v xs w0 W) (hx : xs.length ≤ 60000) :
    Calls Try.prog 36 #[.pointer (some ⟨d, 0, none⟩), .slice (some ⟨W.heap.size, 0, none⟩) 1 1] (W.alloc (.cells (stepC ⟨k, n, [], false, []⟩ (.slice none 0 0) (.slice none 0 0)).toArray 66 (0, 0))) fun e w' => e = .returned (.tuple #[]) ∧ DP B g d x kind hour (xs ++ [⟨k, n, [], false, []⟩]) w0 w' :=
  putS.calls B g d x kind hour v xs ⟨k, n, [], false, []⟩ _ _ w0 W hBd hg h hx (Kd.R_nil _ _ _ _ _) (Kd.R_nil _ _ _ _ _)
theorem put2.calls (B g d : Nat) (x kind hour : Int) (v : Value) (xs : List Sx) (k n k2 n2 : Int) (w0 W : World) (hBd : B ≤ d) (hg : g ≠ d) (h : DS B g d x kind hour v xs w0 W) (hx : xs.length ≤ 60000) :
    Calls Try.prog 36 #[.pointer (some ⟨d, 0, none⟩), .slice (some ⟨W.heap.size, 0, none⟩) 2 2] (W.alloc (.cells (stepC ⟨k, n, [], false, []⟩ (.slice none 0 0) (.slice none 0 0) ++ stepC ⟨k2, n2, [], false, []⟩ (.slice none 0 0) (.slice none 0 0)).toArray 66 (0, 0))) fun e w' => e = .returned (.tuple #[]) ∧ DP B g d x kind hour (xs ++ [⟨k, n, [], false, []⟩, ⟨k2, n2, [], false, []⟩]) w0 w' := by
  have hb : Below W.heap.size W (W.alloc (.cells (stepC ⟨k, n, [], false, []⟩ (.slice none 0 0) (.slice none 0 0) ++ stepC ⟨k2, n2, [], false, []⟩ (.slice none 0 0) (.slice none 0 0)).toArray 66 (0, 0))) := (Below.refl _ W).alloc (Nat.le_refl _) _
  have hgu := blk_lt h.dice.blk
  exact put.calls B g d x kind hour v xs [⟨k, n, [], false, []⟩, ⟨k2, n2, [], false, []⟩] _ 2 2 (fun _ => False) w0 _ hBd hg (h.below hBd hb) (by omega)
    (lit2 (blk_new W _) rfl rfl (stepD_M (Kd.R_nil _ _ _ _ _) (Kd.R_nil _ _ _ _ _)) (stepD_M (Kd.R_nil _ _ _ _ _) (Kd.R_nil _ _ _ _ _))) (fun k hk => hk.elim) (by simp; omega)
def tickV (x kind : Int) : Int := if kind = 2 then (thr x 6 + 1) * 24 else thr x 6 + 1
set_option maxHeartbeats 8000000 in
set_option maxRecDepth 100000 in
theorem tick_cold.calls (B g d : Nat) (x kind hour : Int) (v : Value) (xs : List Sx) (w0 w : World) (hB : B ≤ g) (hBd : B ≤ d) (hg : g ≠ d) (h : DS B g d x kind hour v xs w0 w) (hx : xs.length ≤ 50000) (h0 : 0 ≤ hour) (h1 : hour ≤ 1000000) (hk : kind = 2) :
    Calls Try.prog 35 #[.pointer (some ⟨d, 0, none⟩)] w fun e w' => e = .returned (.tuple #[]) ∧ DP B g d (nxt x) kind (hour + tickV x kind) (xs ++ [⟨4, tickV x kind * 60, [], false, []⟩]) w0 w' := by
  have H := Aside0.mk h
  have t6 := thr_bd x 6 (by omega)
  have e1 : (kind == 2) = true := by simp; omega
  have w1 : wrap64 (thr x 6 + 1) = thr x 6 + 1 := by unfold wrap64; omega
  have w2 : wrap64 ((thr x 6 + 1) * 24) = (thr x 6 + 1) * 24 := by unfold wrap64; omega
  have w3 : wrap64 (hour + ((thr x 6 + 1) * 24)) = hour + ((thr x 6 + 1) * 24) := by unfold wrap64; omega
  have w4 : wrap64 (((thr x 6 + 1) * 24) * 60) = ((thr x 6 + 1) * 24) * 60 := by unfold wrap64; omega
  clear h
  have c0 := H.out.c0
  go_enter Try.func35, Try.ntmps35
  go_wp2_with fail
  clear c0
  refine (H.out.next hB hg 6 (by omega) (by omega)).mono ?_
  rintro e u ⟨rfl, hh, -⟩
  replace H := Aside0.mk hh
  clear hh
  have c1 := H.out.c1
  have c2 := H.out.c2
  have f2 := H.out.fr 2
  go_wp2_with fail
  clear c1 c2 f2
  replace H := Aside0.mk (H.out.hour hBd hg (hour + ((thr x 6 + 1) * 24)))
  generalize hW : World.setCell _ _ _ = W at H ⊢
  have hs : u.heap.size = W.heap.size := by rw [← hW]; simp
  rw [hs]
  clear hW hs
  refine (put1.calls B g d _ kind _ v xs 4 (((thr x 6 + 1) * 24) * 60) w0 W hBd hg H.out (by (try simp only [List.length_append, List.length_cons, List.length_nil]); omega)).mono ?_
  rintro e u2 ⟨rfl, hh⟩
  go_wp2
  go_end0
  refine ⟨rfl, ?_⟩
  unfold tickV
  rw [if_pos hk]
  exact hh
set_option maxHeartbeats 8000000 in
set_option maxRecDepth 100000 in
theorem tick_else.calls (B g d : Nat) (x kind hour : Int) (v : Value) (xs : List Sx) (w0 w : World) (hB : B ≤ g) (hBd : B ≤ d) (hg : g ≠ d) (h : DS B g d x kind hour v xs w0 w) (hx : xs.length ≤ 50000) (h0 : 0 ≤ hour) (h1 : hour ≤ 1000000) (hk : ¬ kind = 2) :
    Calls Try.prog 35 #[.pointer (some ⟨d, 0, none⟩)] w fun e w' => e = .returned (.tuple #[]) ∧ DP B g d (nxt x) kind (hour + tickV x kind) (xs ++ [⟨4, tickV x kind * 60, [], false, []⟩]) w0 w' := by
  have H := Aside0.mk h
  have t6 := thr_bd x 6 (by omega)
  have e1 : (kind == 2) = false := by simp; omega
  have w1 : wrap64 (thr x 6 + 1) = thr x 6 + 1 := by unfold wrap64; omega
  have w2 : wrap64 ((thr x 6 + 1) * 24) = (thr x 6 + 1) * 24 := by unfold wrap64; omega
  have w3 : wrap64 (hour + (thr x 6 + 1)) = hour + (thr x 6 + 1) := by unfold wrap64; omega
  have w4 : wrap64 (((thr x 6 + 1)) * 60) = ((thr x 6 + 1)) * 60 := by unfold wrap64; omega
  clear h
  have c0 := H.out.c0
  go_enter Try.func35, Try.ntmps35
  go_wp2_with fail
  clear c0
  refine (H.out.next hB hg 6 (by omega) (by omega)).mono ?_
  rintro e u ⟨rfl, hh, -⟩
  replace H := Aside0.mk hh
  clear hh
  have c1 := H.out.c1
  have c2 := H.out.c2
  have f2 := H.out.fr 2
  go_wp2_with fail
  clear c1 c2 f2
  replace H := Aside0.mk (H.out.hour hBd hg (hour + (thr x 6 + 1)))
  generalize hW : World.setCell _ _ _ = W at H ⊢
  have hs : u.heap.size = W.heap.size := by rw [← hW]; simp
  rw [hs]
  clear hW hs
  refine (put1.calls B g d _ kind _ v xs 4 (((thr x 6 + 1)) * 60) w0 W hBd hg H.out (by (try simp only [List.length_append, List.length_cons, List.length_nil]); omega)).mono ?_
  rintro e u2 ⟨rfl, hh⟩
  go_wp2
  go_end0
  refine ⟨rfl, ?_⟩
  unfold tickV
  rw [if_neg hk]
  exact hh
end Dr
end Go.Proofs.Ytiokjjadpobciaa.P
