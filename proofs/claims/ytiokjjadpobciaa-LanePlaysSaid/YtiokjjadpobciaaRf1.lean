import Derived.Test.YtiokjjadpobciaaRf0
namespace Go.Proofs.Ytiokjjadpobciaa.P
open Go.RowKit Go.Conc Go.Proofs.YtiokjjadpobciaaW.PrintWords Go.Proofs.YtiokjjadpobciaaW.PrintLast Go.Proofs.YtiokjjadpobciaaW.PrintMore
attribute [local go_sem] max2_int min2_int max_two min_two max_three min_three max_four min_four
set_option linter.unusedVariables false
set_option linter.unusedSimpArgs false
namespace Ln
theorem info27 : (Try.prog.info? 27).map (fun i => (i.zero, i.size, i.bytes)) = some (some (.slice none 0 0), 1, 24) := by kernel_rfl
theorem mk27 (n : Nat) (hn : n ≤ 8) (w : World) : (Instr.makeSlice 44 (.int .i64 n) (.int .i64 n)).run Try.prog w = .ok (.slice (some ⟨w.heap.size, 0, none⟩) n n) (w.alloc (.cells (List.replicate n (Value.slice none 0 0)).toArray 27 (0, 0))) := by
  obtain ⟨i, hi, hz⟩ := Option.map_eq_some_iff.1 info27
  simp only [Prod.mk.injEq] at hz
  obtain ⟨hz0, hz1, hz2⟩ := hz
  have := run_make (P := Try.prog) w 44 27 i (.slice none 0 0) Try.underlying44 hi hz0 .i64 .i64 n n (by omega) (by omega) (by rw [hz2]; omega) (by omega)
  rw [hz1] at this
  simp only [Int.toNat_natCast, Nat.mul_one] at this
  rw [this]
  have e : madeCells (Value.slice none 0 0).cells n = (List.replicate n (Value.slice none 0 0)).toArray := by
    apply Array.ext
    · simp [size_madeCells]
    · intro j h1 h2
      simp [madeCells, Value.cells]
      simp [Nat.mod_one]
  rw [e]
theorem RfS.new (h m r n : Nat) (w : World) (hb : w.heap[h]? = some (.cells #[.int .i64 r, .slice (some ⟨m, 0, none⟩) n n] 46 (0, 0))) (hm : w.heap[m]? = some (.cells (List.replicate n (Value.slice none 0 0)).toArray 27 (0, 0))) : RfS h m r (List.replicate n (Value.slice none 0 0)) (List.replicate n []) w := by
  refine ⟨by simpa using hb, hm, by simp, fun i v hi => ?_⟩
  obtain ⟨h1, h2⟩ := List.getElem?_eq_some_iff.1 hi
  simp at h2 h1
  subst h2
  rw [List.getD_eq_getElem?_getD, List.getElem?_replicate]
  simp [h1]
  exact Rw.nil w
set_option maxHeartbeats 8000000 in
set_option maxRecDepth 100000 in
theorem RNew_bad.calls (m r : Int) (w : World) (h : ¬ (1 ≤ m ∧ m ≤ 8 ∧ 1 ≤ r ∧ r ≤ 64)) :
    Calls Try.prog 16 #[.int .i64 m, .int .i64 r] w fun e w' => e = .returned (.tuple #[.pointer none, .int .i64 2]) ∧ w' = w := by
  have hh : m < 1 ∨ (¬ m < 1 ∧ 8 < m) ∨ (¬ m < 1 ∧ ¬ 8 < m ∧ r < 1) ∨ (¬ m < 1 ∧ ¬ 8 < m ∧ ¬ r < 1 ∧ 64 < r) := by omega
  rcases hh with hh | hh | hh | hh
  · have d0 : decide (m < 1) = true := decide_eq_true (by omega)
    go_enter Try.func16, Try.ntmps16
    go_wp2
    go_ret2
    exact ⟨rfl, rfl⟩
  · have d0 : decide (m < 1) = false := decide_eq_false (by omega)
    have d1 : decide (8 < m) = true := decide_eq_true (by omega)
    go_enter Try.func16, Try.ntmps16
    go_wp2
    go_ret2
    exact ⟨rfl, rfl⟩
  · have d0 : decide (m < 1) = false := decide_eq_false (by omega)
    have d1 : decide (8 < m) = false := decide_eq_false (by omega)
    have d2 : decide (r < 1) = true := decide_eq_true (by omega)
    go_enter Try.func16, Try.ntmps16
    go_wp2
    go_ret2
    exact ⟨rfl, rfl⟩
  · have d0 : decide (m < 1) = false := decide_eq_false (by omega)
    have d1 : decide (8 < m) = false := decide_eq_false (by omega)
    have d2 : decide (r < 1) = false := decide_eq_false (by omega)
    have d3 : decide (64 < r) = true := decide_eq_true (by omega)
    go_enter Try.func16, Try.ntmps16
    go_wp2
    go_ret2
    exact ⟨rfl, rfl⟩
set_option maxHeartbeats 8000000 in
set_option maxRecDepth 100000 in
theorem RNew_ok.calls (m r : Nat) (w : World) (h : 1 ≤ m ∧ m ≤ 8 ∧ 1 ≤ r ∧ r ≤ 64) :
    Calls Try.prog 16 #[.int .i64 m, .int .i64 r] w fun e w' => ∃ g b, e = .returned (.tuple #[.pointer (some ⟨g, 0, none⟩), .int .i64 0]) ∧ w.heap.size ≤ b ∧ RfP g b r (List.replicate m []) w' ∧ Below w.heap.size w w' := by
  have hmk := mk27 m h.2.1
  have d0 : decide ((m : Int) < 1) = false := decide_eq_false (by omega)
  have d1 : decide (8 < (m : Int)) = false := decide_eq_false (by omega)
  have d2 : decide ((r : Int) < 1) = false := decide_eq_false (by omega)
  have d3 : decide (64 < (r : Int)) = false := decide_eq_false (by omega)
  go_enter Try.func16, Try.ntmps16
  go_wp2
  go_ret2
  refine ⟨_, w.heap.size, rfl, Nat.le_refl _, ⟨_, RfS.new _ w.heap.size r m _ ?_ ?_⟩, ?_⟩
  · simpa using blk_new (w.alloc (.cells (List.replicate m (Value.slice none 0 0)).toArray 27 (0, 0))) (.cells #[.int .i64 r, .slice (some ⟨w.heap.size, 0, none⟩) m m] 46 (0, 0))
  · exact blk_alloc (blk_new w _) _
  · exact ((Below.refl _ w).alloc (Nat.le_refl _) _).alloc (by simp) _
set_option maxHeartbeats 8000000 in
set_option maxRecDepth 100000 in
theorem RDrain.calls (B h m room : Nat) (L : List (List Int)) (i : Int) (w0 w : World) (hB : Below B w0 w) (hBm : B ≤ m) (hR : RfP h m room L w) :
    Calls Try.prog 31 #[.pointer (some ⟨h, 0, none⟩), .int .i64 i] w fun e w' => ∃ v, e = .returned v ∧ Rw w' v (drainV L i).1 ∧ RPost B h m room (drainV L i).2 w0 w w' := by
  have HP := Aside0.mk hR
  obtain ⟨vs, hS⟩ := hR
  obtain ⟨hc0, hc1⟩ := hS.cell
  have HS := Aside0.mk hS
  have HB := Aside0.mk hB
  clear hS hB
  unfold drainV
  by_cases hl : lane L i = true
  · rw [if_pos hl]
    obtain ⟨n, rfl, hn⟩ := lane_of hl
    obtain ⟨v, hv, hcm, hrw⟩ := HS.out.at hn
    have hfm : w.frozen? ⟨m, n, none⟩ = false := blk_frozen HS.out.mb n
    have b1 : (0 : Int) ≤ (n : Int) := by omega
    have b2 : (n : Int) < (L.length : Int) := by omega
    have HV := Aside0.mk hrw
    clear hrw hv
    go_enter Try.func31, Try.ntmps31
    go_wp2_with fail
    refine (Has.calls h m room L _ _ HP.out).mono ?_
    rintro e w1 ⟨rfl, rfl⟩
    rw [hl]
    go_wp2
    go_ret
    have HS2 := HS.out.put hn (Rw.nil _)
    refine ⟨v, rfl, ?_, ⟨_, HS2⟩, ?_, ?_⟩
    · exact HV.out.move (fun k cells hk => Below.heap_setCell _ ⟨m, n, none⟩ _ k (blk_ne hk HS.out.mb (by decide)))
    · exact HB.out.setCell (p := ⟨m, n, none⟩) hBm _
    · exact ⟨rfl, rfl, rfl, by simp, fun k hk hs => Below.heap_setCell _ ⟨m, n, none⟩ _ k hs⟩
  · rw [if_neg hl]
    have hl2 : lane L i = false := by simpa using hl
    go_enter Try.func31, Try.ntmps31
    go_wp2_with fail
    refine (Has.calls h m room L _ _ HP.out).mono ?_
    rintro e w1 ⟨rfl, rfl⟩
    rw [hl2]
    go_wp2
    go_ret
    exact ⟨_, rfl, Rw.nil _, ⟨vs, HS.out⟩, HB.out, Far.refl _ _⟩
end Ln
end Go.Proofs.Ytiokjjadpobciaa.P
