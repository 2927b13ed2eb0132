import Derived.Test.YtiokjjadpobciaaDr3
namespace Go.Proofs.Ytiokjjadpobciaa.P
open Go.RowKit Go.Conc Go.Proofs.YtiokjjadpobciaaW.PrintWords Go.Proofs.YtiokjjadpobciaaW.PrintLast Go.Proofs.YtiokjjadpobciaaW.PrintMore
attribute [local go_sem] max2_int min2_int max_two min_two max_three min_three max_four min_four
set_option linter.unusedVariables false
set_option linter.unusedSimpArgs false
namespace Dr
open Ln
theorem and_one (i : Nat) (h : i < 1000000) : Go.bits .and .i64 (i : Int) 1 = (i : Int) % 2 := by
  have e : (BitVec.ofInt IntKind.i64.bits (i : Int) &&& BitVec.ofInt IntKind.i64.bits 1).toNat = i % 2 := by
    show (BitVec.ofInt 64 (i : Int) &&& 1#64).toNat = i % 2
    rw [BitVec.toNat_and, BitVec.toNat_ofInt]
    have e1 : ((i : Int) % (2 ^ 64 : Nat)).toNat = i := by omega
    rw [e1]
    show i &&& 1 = i % 2
    exact Nat.and_one_is_mod i
  simp only [Go.bits]
  rw [e, IntKind.wrap_i64]
  omega
theorem R_true (W : World) (B : Nat) (ok : Nat → Prop) (hB : B ≤ W.heap.size) (hok : ok W.heap.size) : Kd.R Kd.bool 4 (W.alloc (.cells #[.bool true] 4 (0, 0))) B ok (.slice (some ⟨W.heap.size, 0, none⟩) 1 1) [true] := by
  refine ⟨fun k hk => ?_, [.bool true], ?_, ?_⟩
  · have : W.heap.size = k := by simpa [Value.ownBlock] using hk
    rw [← this]; exact hok
  · have h2 := World.ownsRow_lit (base := B) (e := 4) (size := 1) W #[.bool true] 1 hB (by simp [maxLen]) rfl
    simpa [show Kd.bool.sz = 1 from rfl] using h2
  · exact Reps.front (c := [.bool true]) (cs := []) rfl rfl (Reps.none _ _) (by simp)
/-- A rare step. -/
def isCrash (kind : Int) (i : Nat) : Prop := kind = 3 ∧ i % 2 = 1
set_option maxHeartbeats 8000000 in
set_option maxRecDepth 100000 in
theorem other_crash.calls (B g d : Nat) (x kind hour : Int) (v : Value) (xs : List Sx) (w0 w : World) (hB : B ≤ g) (hBd : B ≤ d) (hg : g ≠ d) (h : DS B g d x kind hour v xs w0 w) (hx : xs.length ≤ 50000) (h0 : 0 ≤ hour) (h1 : hour ≤ 1000000) (i : Nat) (hi : i < 1000) (hk : isCrash kind i) :
    Calls Try.prog 37 #[.pointer (some ⟨d, 0, none⟩), .int .i64 i] w fun e w' => e = .returned (.tuple #[]) ∧ DP B g d (nxt (nxt x)) kind (0) (xs ++ [⟨7, thr x 9 + 1, [], false, []⟩, ⟨5, 0, [], false, []⟩, ⟨8, thr (nxt x) 50, [], false, []⟩, ⟨9, 0, [], false, []⟩]) w0 w' := by
  obtain ⟨hk3, hk2⟩ := hk
  have t9 := thr_bd x 9 (by omega)
  have w9 : wrap64 (thr x 9 + 1) = thr x 9 + 1 := by unfold wrap64; omega
  have k1 : (kind == 3) = true := by simp; omega
  have k2 : ((i : Int) % 2 == 1) = true := by simp; omega
  have H := Aside0.mk h
  have hband := and_one i (by omega)
  have c1 := H.out.c1
  clear h
  have c0 := H.out.c0
  go_enter Try.func37, Try.ntmps37
  go_wp2_with fail
  clear c0 c1
  refine (H.out.next hB hg 9 (by omega) (by omega)).mono ?_
  rintro e u ⟨rfl, hh, -⟩
  replace H := Aside0.mk hh
  clear hh
  go_wp2_with fail
  refine (put2.calls B g d _ kind _ v xs 7 (thr x 9 + 1) 5 0 w0 u hBd hg H.out (by omega)).mono ?_
  rintro e u2 ⟨rfl, v2, hh⟩
  replace H := Aside0.mk hh
  clear hh
  have c0 := H.out.c0
  go_wp2_with fail
  clear c0
  refine (H.out.next hB hg 50 (by omega) (by omega)).mono ?_
  rintro e u3 ⟨rfl, hh, -⟩
  replace H := Aside0.mk hh
  clear hh
  go_wp2_with fail
  refine (put2.calls B g d _ kind _ v2 _ 8 (thr (nxt x) 50) 9 0 w0 u3 hBd hg H.out (by simp only [List.length_append, List.length_cons, List.length_nil]; omega)).mono ?_
  rintro e u4 ⟨rfl, v4, hh⟩
  replace H := Aside0.mk hh
  clear hh
  have c2 := H.out.c2
  have f2 := H.out.fr 2
  go_wp2
  go_end0
  refine ⟨rfl, v4, ?_⟩
  have := H.out.hour hBd hg 0
  rw [List.append_assoc] at this
  exact this
set_option maxHeartbeats 8000000 in
set_option maxRecDepth 100000 in
theorem other_fail.calls (B g d : Nat) (x kind hour : Int) (v : Value) (xs : List Sx) (w0 w : World) (hB : B ≤ g) (hBd : B ≤ d) (hg : g ≠ d) (h : DS B g d x kind hour v xs w0 w) (hx : xs.length ≤ 50000) (h0 : 0 ≤ hour) (h1 : hour ≤ 1000000) (i : Nat) (hi : i < 1000) (hk : ¬ isCrash kind i) (hk2 : kind = 2) :
    Calls Try.prog 37 #[.pointer (some ⟨d, 0, none⟩), .int .i64 i] w fun e w' => e = .returned (.tuple #[]) ∧ DP B g d (x) kind (hour) (xs ++ [⟨6, 0, [], false, [true]⟩]) w0 w' := by
  have H := Aside0.mk h
  have hband := and_one i (by omega)
  have c1 := H.out.c1
  clear h
  have k4 : (kind == 2) = true := by simp; omega
  have k1 : (kind == 3) = false := by simp; omega
  clear hk hk2
  go_enter Try.func37, Try.ntmps37
  go_wp2_with fail
  clear c1
  have hgu := blk_lt H.out.dice.blk
  have hdu := blk_lt H.out.blk
  have hvu : some w.heap.size ≠ v.ownBlock := fun e => by have := Kd.R_lt H.out.row _ e.symm; omega
  have hp := putS.calls B g d x kind hour v xs ⟨6, 0, [], false, [true]⟩ (.slice none 0 0) (.slice (some ⟨w.heap.size, 0, none⟩) 1 1) w0 (w.alloc (.cells #[.bool true] 4 (0, 0))) hBd hg (H.out.below hBd ((Below.refl _ _).alloc (Nat.le_refl _) _)) (by omega) (Kd.R_nil _ _ _ _ _) (R_true w B _ (by omega) ⟨⟨by omega, by omega⟩, hvu⟩)
  rw [show (w.alloc (.cells #[.bool true] 4 (0, 0))).heap.size = w.heap.size + 1 by simp] at hp
  refine hp.mono ?_
  rintro e u4 ⟨rfl, hh⟩
  clear H hp
  go_wp2
  go_end0
  exact ⟨rfl, hh⟩
set_option maxHeartbeats 8000000 in
set_option maxRecDepth 100000 in
theorem other_query.calls (B g d : Nat) (x kind hour : Int) (v : Value) (xs : List Sx) (w0 w : World) (hB : B ≤ g) (hBd : B ≤ d) (hg : g ≠ d) (h : DS B g d x kind hour v xs w0 w) (hx : xs.length ≤ 50000) (h0 : 0 ≤ hour) (h1 : hour ≤ 1000000) (i : Nat) (hi : i < 1000) (hk : ¬ isCrash kind i) (hk2 : ¬ kind = 2) :
    Calls Try.prog 37 #[.pointer (some ⟨d, 0, none⟩), .int .i64 i] w fun e w' => e = .returned (.tuple #[]) ∧ DP B g d (x) kind (hour) (xs ++ [⟨2, 0, [], true, []⟩]) w0 w' := by
  have H := Aside0.mk h
  have hband := and_one i (by omega)
  have c1 := H.out.c1
  clear h
  have k4 : (kind == 2) = false := by simp; omega
  by_cases k3 : kind = 3
  · have k1 : (kind == 3) = true := by simp; omega
    have k2 : ((i : Int) % 2 == 1) = false := by simp; unfold isCrash at hk; omega
    clear hk hk2 k3
    go_enter Try.func37, Try.ntmps37
    go_wp2_with fail
    clear c1
    refine (putS.calls B g d _ kind _ v xs ⟨2, 0, [], true, []⟩ (.slice none 0 0) (.slice none 0 0) w0 w hBd hg H.out (by omega) (Kd.R_nil _ _ _ _ _) (Kd.R_nil _ _ _ _ _)).mono ?_
    rintro e u4 ⟨rfl, hh⟩
    clear H
    go_wp2
    go_end0
    exact ⟨rfl, hh⟩
  · have k1 : (kind == 3) = false := by simp; omega
    clear hk hk2 k3
    go_enter Try.func37, Try.ntmps37
    go_wp2_with fail
    clear c1
    refine (putS.calls B g d _ kind _ v xs ⟨2, 0, [], true, []⟩ (.slice none 0 0) (.slice none 0 0) w0 w hBd hg H.out (by omega) (Kd.R_nil _ _ _ _ _) (Kd.R_nil _ _ _ _ _)).mono ?_
    rintro e u4 ⟨rfl, hh⟩
    clear H
    go_wp2
    go_end0
    exact ⟨rfl, hh⟩
end Dr
end Go.Proofs.Ytiokjjadpobciaa.P
