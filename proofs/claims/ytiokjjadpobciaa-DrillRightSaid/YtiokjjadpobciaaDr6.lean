import Derived.Test.YtiokjjadpobciaaDr5
namespace Go.Proofs.Ytiokjjadpobciaa.P
open Go.RowKit Go.Conc Go.Proofs.YtiokjjadpobciaaW.PrintWords Go.Proofs.YtiokjjadpobciaaW.PrintLast Go.Proofs.YtiokjjadpobciaaW.PrintMore
attribute [local go_sem] max2_int min2_int max_two min_two max_three min_three max_four min_four
set_option linter.unusedVariables false
set_option linter.unusedSimpArgs false
namespace Dr
open Ln
/-- A script as it grows: its steps, the dice, the hour. -/
structure Sc where
  xs : List Sx
  x : Int
  hour : Int
def DQ (B g d : Nat) (kind : Int) (s : Sc) (w0 w : World) : Prop := DP B g d s.x kind s.hour s.xs w0 w
def othS (kind : Int) (i : Nat) (s : Sc) : Sc :=
  if kind = 3 ∧ i % 2 = 1 then ⟨s.xs ++ [⟨7, thr s.x 9 + 1, [], false, []⟩, ⟨5, 0, [], false, []⟩, ⟨8, thr (nxt s.x) 50, [], false, []⟩, ⟨9, 0, [], false, []⟩], nxt (nxt s.x), 0⟩
  else if kind = 2 then ⟨s.xs ++ [⟨6, 0, [], false, [true]⟩], s.x, s.hour⟩ else ⟨s.xs ++ [⟨2, 0, [], true, []⟩], s.x, s.hour⟩
def tickS (kind : Int) (s : Sc) : Sc := ⟨s.xs ++ [⟨4, tickV s.x kind * 60, [], false, []⟩], nxt s.x, s.hour + tickV s.x kind⟩
def ingS (kind : Int) (s : Sc) : Sc := ⟨s.xs ++ [⟨1, 0, ingL kind (nxt s.x) s.hour (thr s.x 3 + 1).toNat, false, []⟩], ingX kind (nxt s.x) s.hour (thr s.x 3 + 1).toNat, s.hour⟩
def workS (s : Sc) : Sc := ⟨s.xs ++ [⟨5, thr s.x 4, [], false, []⟩], nxt s.x, s.hour⟩
def oneS (kind : Int) (i : Nat) (s : Sc) : Sc :=
  if thr s.x 10 < 4 then ingS kind ⟨s.xs, nxt s.x, s.hour⟩ else if thr s.x 10 < 6 then tickS kind ⟨s.xs, nxt s.x, s.hour⟩ else if thr s.x 10 < 9 then workS ⟨s.xs, nxt s.x, s.hour⟩ else othS kind i ⟨s.xs, nxt s.x, s.hour⟩
def stpS (kind seed : Int) : Nat → Sc
  | 0 => ⟨[], seedV seed, 0⟩
  | i + 1 => oneS kind i (stpS kind seed i)
theorem tickV_bd (x kind : Int) : 1 ≤ tickV x kind ∧ tickV x kind ≤ 144 := by
  have := thr_bd x 6 (by omega)
  unfold tickV
  split <;> omega
theorem oneS_bd (kind : Int) (i : Nat) (s : Sc) (h0 : 0 ≤ s.hour) : 0 ≤ (oneS kind i s).hour ∧ (oneS kind i s).hour ≤ s.hour + 144 ∧ (oneS kind i s).xs.length ≤ s.xs.length + 4 := by
  have ht := tickV_bd (nxt s.x) kind
  unfold oneS ingS tickS workS othS
  split
  · simp only [List.length_append, List.length_cons, List.length_nil]; omega
  · split
    · simp only [List.length_append, List.length_cons, List.length_nil]; omega
    · split
      · simp only [List.length_append, List.length_cons, List.length_nil]; omega
      · split
        · simp only [List.length_append, List.length_cons, List.length_nil]; omega
        · split <;> simp only [List.length_append, List.length_cons, List.length_nil] <;> omega
theorem stpS_bd (kind seed : Int) : ∀ i, 0 ≤ (stpS kind seed i).hour ∧ (stpS kind seed i).hour ≤ 144 * i ∧ (stpS kind seed i).xs.length ≤ 4 * i
  | 0 => by simp [stpS]
  | i + 1 => by
    have h1 := stpS_bd kind seed i
    have h2 := oneS_bd kind i (stpS kind seed i) h1.1
    show 0 ≤ (oneS kind i (stpS kind seed i)).hour ∧ _ ∧ (oneS kind i (stpS kind seed i)).xs.length ≤ _
    refine ⟨h2.1, ?_, by omega⟩
    show (oneS kind i (stpS kind seed i)).hour ≤ _
    omega
theorem tick.calls (B g d : Nat) (x kind hour : Int) (v : Value) (xs : List Sx) (w0 w : World) (hB : B ≤ g) (hBd : B ≤ d) (hg : g ≠ d) (h : DS B g d x kind hour v xs w0 w) (hx : xs.length ≤ 50000) (h0 : 0 ≤ hour) (h1 : hour ≤ 1000000) :
    Calls Try.prog 35 #[.pointer (some ⟨d, 0, none⟩)] w fun e w' => e = .returned (.tuple #[]) ∧ DQ B g d kind (tickS kind ⟨xs, x, hour⟩) w0 w' := by
  by_cases hk : kind = 2
  · exact tick_cold.calls B g d x kind hour v xs w0 w hB hBd hg h hx h0 h1 hk
  · exact tick_else.calls B g d x kind hour v xs w0 w hB hBd hg h hx h0 h1 hk
theorem other.calls (B g d : Nat) (x kind hour : Int) (v : Value) (xs : List Sx) (w0 w : World) (hB : B ≤ g) (hBd : B ≤ d) (hg : g ≠ d) (h : DS B g d x kind hour v xs w0 w) (hx : xs.length ≤ 50000) (h0 : 0 ≤ hour) (h1 : hour ≤ 1000000) (i : Nat) (hi : i < 1000) :
    Calls Try.prog 37 #[.pointer (some ⟨d, 0, none⟩), .int .i64 i] w fun e w' => e = .returned (.tuple #[]) ∧ DQ B g d kind (othS kind i ⟨xs, x, hour⟩) w0 w' := by
  unfold othS
  by_cases hk : kind = 3 ∧ i % 2 = 1
  · rw [if_pos hk]
    exact other_crash.calls B g d x kind hour v xs w0 w hB hBd hg h hx h0 h1 i hi hk
  · rw [if_neg hk]
    by_cases hk2 : kind = 2
    · rw [if_pos hk2]
      exact other_fail.calls B g d x kind hour v xs w0 w hB hBd hg h hx h0 h1 i hi hk hk2
    · rw [if_neg hk2]
      exact other_query.calls B g d x kind hour v xs w0 w hB hBd hg h hx h0 h1 i hi hk hk2
set_option maxHeartbeats 8000000 in
set_option maxRecDepth 100000 in
theorem Steps_bad.calls (kind seed n : Int) (w : World) (h : kind < 0 ∨ 3 < kind ∨ n < 0 ∨ 300 < n) :
    Calls Try.prog 22 #[.int .i64 kind, .int .u64 seed, .int .i64 n] w fun e w' => e = .returned (.tuple #[.slice none 0 0, .int .i64 1]) ∧ Below w.heap.size w w' := by
  cases e1 : decide (kind < 0) <;> cases e2 : decide (3 < kind) <;> cases e3 : decide (n < 0) <;> cases e4 : decide (300 < n)
  · simp at e1 e2 e3 e4; omega
  all_goals
    (clear h
     go_enter Try.func22, Try.ntmps22
     go_wp2
     go_ret2
     exact ⟨rfl, Below.refl _ _⟩)
set_option maxHeartbeats 8000000 in
set_option maxRecDepth 100000 in
theorem Steps_ok.calls (kind seed : Int) (n : Nat) (w : World) (h0 : 0 ≤ kind) (h3 : kind ≤ 3) (hn : n ≤ 300) :
    Calls Try.prog 22 #[.int .i64 kind, .int .u64 seed, .int .i64 n] w fun e w' => ∃ v, e = .returned (.tuple #[v, .int .i64 0]) ∧ Kd.R stepD 66 w' w.heap.size (fun _ => True) v (stpS kind seed n).xs ∧ Below w.heap.size w w' := by
  have e1 : decide (kind < 0) = false := decide_eq_false (by omega)
  have e2 : decide (3 < kind) = false := decide_eq_false (by omega)
  have e3 : decide ((n : Int) < 0) = false := decide_eq_false (by omega)
  have e4 : decide (300 < (n : Int)) = false := decide_eq_false (by omega)
  have H := Aside0.mk (show DS w.heap.size w.heap.size (w.heap.size + 1) (seedV seed) kind 0 (.slice none 0 0) [] w ((w.alloc (.cells #[.int .u64 (seedV seed)] 97 (0, 0))).alloc (.cells #[.pointer (some ⟨w.heap.size, 0, none⟩), .int .i64 kind, .int .i64 0, .slice none 0 0] 80 (0, 0))) from
    ⟨⟨blk_alloc (blk_new w _) _⟩, by simpa using blk_new (w.alloc (.cells #[.int .u64 (seedV seed)] 97 (0, 0))) (.cells #[.pointer (some ⟨w.heap.size, 0, none⟩), .int .i64 kind, .int .i64 0, .slice none 0 0] 80 (0, 0)), Kd.R_nil _ _ _ _ _, ((Below.refl _ w).alloc (Nat.le_refl _) _).alloc (by simp) _⟩)
  go_enter Try.func22, Try.ntmps22
  go_wp2_with fail
  refine (New.calls seed w).mono ?_
  rintro e w1 ⟨rfl, rfl⟩
  go_wp2
  clear e1 e2 e3 e4
  go_loopw [9, 10, 31] (fun x9 x10 x31 wr => ∃ (i : Nat) (v : Value), x31 = .int .i64 i ∧ i ≤ n ∧ Aside0 (DS w.heap.size w.heap.size (w.heap.size + 1) (stpS kind seed i).x kind (stpS kind seed i).hour v (stpS kind seed i).xs w wr)) (fun _ _ x31 _ => n - (intOf x31).toNat)
  case atStart => exact ⟨0, _, rfl, by omega, H⟩
  case round =>
  clear H
  obtain ⟨i, v, rfl, hi, H⟩ := hrel
  by_cases dd : i < n
  · have dl : decide ((i : Int) < (n : Int)) = true := decide_eq_true (by omega)
    have hw : wrap64 ((i : Int) + 1) = ((i + 1 : Nat) : Int) := by unfold wrap64; omega
    have hb := stpS_bd kind seed i
    have c0 := H.out.c0
    go_wp2_with fail
    clear c0
    refine (H.out.next (Nat.le_refl _) (by omega) 10 (by omega) (by omega)).mono ?_
    rintro e u ⟨rfl, hh, -⟩
    replace H := Aside0.mk hh
    clear hh
    have tb := thr_bd (stpS kind seed i).x 10 (by omega)
    have HBD := Aside0.mk hb
    by_cases a4 : thr (stpS kind seed i).x 10 < 4
    · have t4 : decide (thr (stpS kind seed i).x 10 < 4) = true := decide_eq_true (by omega)
      go_wp2_with fail
      refine (ingest.calls w.heap.size w.heap.size (w.heap.size + 1) (nxt (stpS kind seed i).x) kind (stpS kind seed i).hour v (stpS kind seed i).xs w u (Nat.le_refl _) (by omega) (by omega) H.out (by omega) hb.1 (by omega)).mono ?_
      rintro e u9 ⟨rfl, v', hh⟩
      clear H tb hb t4
      go_wp2
      go_roundw
      case rel =>
        refine ⟨i + 1, v', by (first | rfl | go_num), by omega, ⟨?_⟩⟩
        have e : stpS kind seed (i + 1) = ingS kind ⟨(stpS kind seed i).xs, nxt (stpS kind seed i).x, (stpS kind seed i).hour⟩ := by show oneS kind i (stpS kind seed i) = _; unfold oneS; rw [if_pos a4]
        rw [e]; exact hh
      case measure => simp only [intOf]; omega
    · by_cases a6 : thr (stpS kind seed i).x 10 < 6
      · have t4 : decide (thr (stpS kind seed i).x 10 < 4) = false := decide_eq_false (by omega)
        have t6 : decide (thr (stpS kind seed i).x 10 < 6) = true := decide_eq_true (by omega)
        go_wp2_with fail
        refine (tick.calls w.heap.size w.heap.size (w.heap.size + 1) (nxt (stpS kind seed i).x) kind (stpS kind seed i).hour v (stpS kind seed i).xs w u (Nat.le_refl _) (by omega) (by omega) H.out (by omega) hb.1 (by omega)).mono ?_
        rintro e u9 ⟨rfl, v', hh⟩
        clear H tb hb t4 t6
        go_wp2
        go_roundw
        case rel =>
          refine ⟨i + 1, v', by (first | rfl | go_num), by omega, ⟨?_⟩⟩
          have e : stpS kind seed (i + 1) = tickS kind ⟨(stpS kind seed i).xs, nxt (stpS kind seed i).x, (stpS kind seed i).hour⟩ := by show oneS kind i (stpS kind seed i) = _; unfold oneS; rw [if_neg (by omega), if_pos (by omega)]
          rw [e]; exact hh
        case measure => simp only [intOf]; omega
      · by_cases a9 : thr (stpS kind seed i).x 10 < 9
        · have t4 : decide (thr (stpS kind seed i).x 10 < 4) = false := decide_eq_false (by omega)
          have t6 : decide (thr (stpS kind seed i).x 10 < 6) = false := decide_eq_false (by omega)
          have t9 : decide (thr (stpS kind seed i).x 10 < 9) = true := decide_eq_true (by omega)
          have c0 := H.out.c0
          go_wp2_with fail
          clear c0
          refine (H.out.next (Nat.le_refl _) (by omega) 4 (by omega) (by omega)).mono ?_
          rintro e u3 ⟨rfl, hh, -⟩
          replace H := Aside0.mk hh
          clear hh
          go_wp2_with fail
          refine (put1.calls w.heap.size w.heap.size (w.heap.size + 1) _ kind _ v _ 5 (thr (nxt (stpS kind seed i).x) 4) w u3 (by omega) (by omega) H.out (by omega)).mono ?_
          rintro e u9 ⟨rfl, v', hh⟩
          clear H tb hb t4 t6 t9
          go_wp2
          go_roundw
          case rel =>
            refine ⟨i + 1, v', by (first | rfl | go_num), by omega, ⟨?_⟩⟩
            have e : stpS kind seed (i + 1) = workS ⟨(stpS kind seed i).xs, nxt (stpS kind seed i).x, (stpS kind seed i).hour⟩ := by show oneS kind i (stpS kind seed i) = _; unfold oneS; rw [if_neg (by omega), if_neg (by omega), if_pos (by omega)]
            rw [e]; exact hh
          case measure => simp only [intOf]; omega
        · have t4 : decide (thr (stpS kind seed i).x 10 < 4) = false := decide_eq_false (by omega)
          have t6 : decide (thr (stpS kind seed i).x 10 < 6) = false := decide_eq_false (by omega)
          have t9 : decide (thr (stpS kind seed i).x 10 < 9) = false := decide_eq_false (by omega)
          go_wp2_with fail
          refine (other.calls w.heap.size w.heap.size (w.heap.size + 1) (nxt (stpS kind seed i).x) kind (stpS kind seed i).hour v (stpS kind seed i).xs w u (Nat.le_refl _) (by omega) (by omega) H.out (by omega) hb.1 (by omega) i (by omega)).mono ?_
          rintro e u9 ⟨rfl, v', hh⟩
          clear H tb hb t4 t6 t9
          go_wp2
          go_roundw
          case rel =>
            refine ⟨i + 1, v', by (first | rfl | go_num), by omega, ⟨?_⟩⟩
            have e : stpS kind seed (i + 1) = othS kind i ⟨(stpS kind seed i).xs, nxt (stpS kind seed i).x, (stpS kind seed i).hour⟩ := by show oneS kind i (stpS kind seed i) = _; unfold oneS; rw [if_neg (by omega), if_neg (by omega), if_neg (by omega)]
            rw [e]; exact hh
          case measure => simp only [intOf]; omega
  · obtain rfl : i = n := by omega
    have dl : decide ((i : Int) < (i : Int)) = false := decide_eq_false (by omega)
    have c3 := H.out.c3
    go_wp2
    go_ret2
    exact ⟨v, rfl, Kd.R_mono H.out.row (fun _ _ => trivial), H.out.b⟩
end Dr
end Go.Proofs.Ytiokjjadpobciaa.P
