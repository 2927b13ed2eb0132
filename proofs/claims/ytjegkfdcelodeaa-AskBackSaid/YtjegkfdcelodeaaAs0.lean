import Derived.Test.YtjegkfdcelodeaaRd
namespace Go.Proofs.Ytjegkfdcelodeaa.P
open Go.RowKit Go.Proofs.YtjegkfdcelodeaaW.PrintWords Go.Proofs.YtjegkfdcelodeaaW.PrintLast Go.Proofs.YtjegkfdcelodeaaW.PrintMore
attribute [local go_sem] max2_int min2_int max_two min_two max_three min_three max_four min_four
set_option linter.unusedVariables false
set_option linter.unusedSimpArgs false
/-- A query. -/
structure Qy where
  a : Int
  b : Int
  G : Nat → Bool
  H : Nat → Bool
  T : Nat → ByteArray
def Qy.cells (q : Qy) : Array Value := #[.int .i64 q.a, .int .i64 q.b, .bool (q.G 0), .bool (q.G 1), .bool (q.G 2), .bool (q.G 3), .bool (q.H 0), .bool (q.H 1), .bool (q.H 2), .bool (q.H 3), .string (q.T 0), .string (q.T 1), .string (q.T 2), .string (q.T 3)]
/-- A key. -/
structure Ky where
  h : Int
  D : Nat → ByteArray
def Ky.cells (k : Ky) : Array Value := #[.int .i64 k.h, .string (k.D 0), .string (k.D 1), .string (k.D 2), .string (k.D 3)]
namespace As
theorem lt4 {i : Nat} (h : i < 4) : i = 0 ∨ i = 1 ∨ i = 2 ∨ i = 3 := by omega
structure QB (p : Nat) (q : Qy) (W : World) : Prop where
  blk : W.heap[p]? = some (.cells q.cells 58 (0, 0))
theorem QB.ca {p : Nat} {q : Qy} {W : World} (h : QB p q W) : W.cell? ⟨p, 0, none⟩ = some (.int .i64 q.a) := blk_cell h.blk 0
theorem QB.cb {p : Nat} {q : Qy} {W : World} (h : QB p q W) : W.cell? ⟨p, 1, none⟩ = some (.int .i64 q.b) := blk_cell h.blk 1
theorem QB.cG {p : Nat} {q : Qy} {W : World} (h : QB p q W) {i : Nat} (hi : i < 4) : W.cell? ⟨p, 2 + i, none⟩ = some (.bool (q.G i)) := by
  rcases lt4 hi with rfl | rfl | rfl | rfl <;> exact blk_cell h.blk _
theorem QB.cH {p : Nat} {q : Qy} {W : World} (h : QB p q W) {i : Nat} (hi : i < 4) : W.cell? ⟨p, 6 + i, none⟩ = some (.bool (q.H i)) := by
  rcases lt4 hi with rfl | rfl | rfl | rfl <;> exact blk_cell h.blk _
theorem QB.cT {p : Nat} {q : Qy} {W : World} (h : QB p q W) {i : Nat} (hi : i < 4) : W.cell? ⟨p, 10 + i, none⟩ = some (.string (q.T i)) := by
  rcases lt4 hi with rfl | rfl | rfl | rfl <;> exact blk_cell h.blk _
theorem QB.new (q : Qy) (w : World) : QB w.heap.size q (w.alloc (.cells q.cells 58 (0, 0))) := ⟨blk_new w _⟩
def light (q : Qy) : Bool := (List.range 4).all (fun i => decide ((q.T i).size ≤ 40))
theorem light_true {q : Qy} (h : ∀ j, j < 4 → (q.T j).size ≤ 40) : light q = true := by simpa [light] using h
theorem light_false {q : Qy} {i : Nat} (hi : i < 4) (h : 40 < (q.T i).size) : light q = false := by
  cases e : light q with
  | false => rfl
  | true => simp [light] at e; have := e i hi; omega
theorem light_spec {q : Qy} (h : light q = true) {i : Nat} (hi : i < 4) : (q.T i).size ≤ 40 := by simp [light] at h; exact h i hi
set_option maxHeartbeats 8000000 in
set_option maxRecDepth 100000 in
theorem Light.calls (q : Qy) (w : World) :
    Calls Try.prog 37 #[.agg q.cells] w fun e w' => e = .returned (.bool (light q)) ∧ Below w.heap.size w w' := by
  have HQ := Aside0.mk (QB.new q w)
  have HB := Aside0.mk (show Below w.heap.size w (w.alloc (.cells q.cells 58 (0, 0))) from (Below.refl _ w).alloc (Nat.le_refl _) _)
  unfold Qy.cells at HQ HB ⊢
  go_enter Try.func37, Try.ntmps37
  go_wp2
  generalize w.alloc _ = W at HQ HB ⊢
  go_loopw [3] (fun x3 wr => ∃ i : Nat, x3 = .int .i64 i ∧ i ≤ 4 ∧ Aside0 (∀ j, j < i → (q.T j).size ≤ 40) ∧ wr = W) (fun x3 _ => 4 - (intOf x3).toNat)
  case atStart => exact ⟨0, rfl, by omega, ⟨fun j hj => by omega⟩, rfl⟩
  case round =>
    obtain ⟨i, rfl, hi, HI, rfl⟩ := hrel
    by_cases d : i < 4
    · have dl : decide ((i : Int) < 4) = true := decide_eq_true (by omega)
      have b1 : (0 : Int) ≤ (i : Int) := by omega
      have b2 : (i : Int) < 4 := by omega
      have hw : wrap64 ((i : Int) + 1) = ((i + 1 : Nat) : Int) := by unfold wrap64; omega
      have f1 := HQ.out.cT d
      by_cases s1 : (q.T i).size ≤ 40
      · have e1 : decide (((q.T i).size : Int) > 40) = false := decide_eq_false (by omega)
        have e2 : decide (40 < ((q.T i).size : Int)) = false := decide_eq_false (by omega)
        have HI2 := Aside0.mk (show ∀ j, j < i + 1 → (q.T j).size ≤ 40 from fun j hj => by
          rcases Nat.lt_succ_iff_lt_or_eq.1 hj with h | h
          · exact HI.out j h
          · subst h; exact s1)
        go_wp2
        go_roundw
        case rel =>
          refine ⟨i + 1, rfl, by omega, HI2, ?_⟩
          trivial
        case measure => simp only [intOf]; omega
      · have e1 : decide (((q.T i).size : Int) > 40) = true := decide_eq_true (by omega)
        have e2 : decide (40 < ((q.T i).size : Int)) = true := decide_eq_true (by omega)
        have hl := light_false d (show 40 < (q.T i).size by omega)
        go_wp2
        go_ret
        exact ⟨by rw [hl]; rfl, HB.out⟩
    · have dl : decide ((i : Int) < 4) = false := decide_eq_false (by omega)
      have hl := light_true (q := q) (fun j hj => HI.out j (by omega))
      go_wp2
      go_ret
      exact ⟨by rw [hl]; rfl, HB.out⟩
/-- The dimension's filter is none. -/
def badQ (q : Qy) (dims : Int) (i : Nat) : Bool := (decide (dims ≤ (i : Int)) && (q.G i || q.H i)) || (!(q.T i).toList.isEmpty && !q.H i) || decide (16 < ((q.T i).size : Int))
def chkQ (q : Qy) (dims : Int) : Int := if dims < 1 ∨ 4 < dims then 1 else if q.a < 0 ∨ 16777217 < q.b ∨ q.b < q.a then 2 else if (List.range 4).any (badQ q dims) then 4 else 0
theorem chk4 {q : Qy} {dims : Int} (c1 : ¬ (dims < 1 ∨ 4 < dims)) (c2 : ¬ (q.a < 0 ∨ 16777217 < q.b ∨ q.b < q.a)) {i : Nat} (hi : i < 4) (hb : badQ q dims i = true) : chkQ q dims = 4 := by
  unfold chkQ
  rw [if_neg c1, if_neg c2, if_pos]
  exact List.any_eq_true.2 ⟨i, List.mem_range.2 hi, hb⟩
theorem chk0 {q : Qy} {dims : Int} (c1 : ¬ (dims < 1 ∨ 4 < dims)) (c2 : ¬ (q.a < 0 ∨ 16777217 < q.b ∨ q.b < q.a)) (hb : ∀ i, i < 4 → badQ q dims i = false) : chkQ q dims = 0 := by
  unfold chkQ
  rw [if_neg c1, if_neg c2, if_neg]
  intro h
  obtain ⟨i, hi, hb2⟩ := List.any_eq_true.1 h
  rw [hb i (List.mem_range.1 hi)] at hb2
  exact absurd hb2 (by simp)
set_option maxHeartbeats 8000000 in
set_option maxRecDepth 100000 in
theorem RCheck.calls (q : Qy) (dims : Int) (r : Int) (w : World) (hr : chkQ q dims = r) :
    Calls Try.prog 38 #[.agg q.cells, .int .i64 dims] w fun e w' => e = .returned (.int .i64 r) ∧ Below w.heap.size w w' := by
  have HQ := Aside0.mk (QB.new q w)
  have HB := Aside0.mk (show Below w.heap.size w (w.alloc (.cells q.cells 58 (0, 0))) from (Below.refl _ w).alloc (Nat.le_refl _) _)
  by_cases c1 : dims < 1 ∨ 4 < dims
  · have hr1 : r = 1 := by rw [← hr]; unfold chkQ; rw [if_pos c1]
    subst hr1
    clear hr
    unfold Qy.cells at HQ HB ⊢
    by_cases c2 : dims < 1
    · have e1 : decide (dims < 1) = true := decide_eq_true c2
      have e1' : decide (1 ≤ dims) = false := decide_eq_false (by omega)
      go_enter Try.func38, Try.ntmps38
      go_wp2
      go_ret
      exact ⟨rfl, HB.out⟩
    · have e1 : decide (dims < 1) = false := decide_eq_false c2
      have e2 : decide (dims > 4) = true := decide_eq_true (by omega)
      have e3 : decide (4 < dims) = true := decide_eq_true (by omega)
      go_enter Try.func38, Try.ntmps38
      go_wp2
      go_ret
      exact ⟨rfl, HB.out⟩
  · have e1 : decide (dims < 1) = false := decide_eq_false (by omega)
    have e2 : decide (dims > 4) = false := decide_eq_false (by omega)
    have e3 : decide (4 < dims) = false := decide_eq_false (by omega)
    have fa := HQ.out.ca
    have fb := HQ.out.cb
    by_cases c2 : q.a < 0 ∨ 16777217 < q.b ∨ q.b < q.a
    · have hr1 : r = 2 := by rw [← hr]; unfold chkQ; rw [if_neg c1, if_pos c2]
      subst hr1
      clear hr
      unfold Qy.cells at HQ HB fa fb ⊢
      cases e4 : decide (q.a < 0) <;> cases e5 : decide (16777217 < q.b) <;> cases e7 : decide (q.b < q.a)
      · simp at e4 e5 e7; omega
      all_goals
        go_enter Try.func38, Try.ntmps38
        go_wp2
        go_ret
        exact ⟨rfl, HB.out⟩
    · have e4 : decide (q.a < 0) = false := decide_eq_false (by omega)
      have e5 : decide (q.b > 16777217) = false := decide_eq_false (by omega)
      have e6 : decide (16777217 < q.b) = false := decide_eq_false (by omega)
      have e7 : decide (q.a > q.b) = false := decide_eq_false (by omega)
      have e8 : decide (q.b < q.a) = false := decide_eq_false (by omega)
      unfold Qy.cells at HQ HB fa fb ⊢
      go_enter Try.func38, Try.ntmps38
      go_wp2
      clear fa fb
      generalize w.alloc _ = W at HQ HB ⊢
      go_loopw [5] (fun x5 wr => ∃ i : Nat, x5 = .int .i64 i ∧ i ≤ 4 ∧ Aside0 (∀ j, j < i → badQ q dims j = false) ∧ wr = W) (fun x5 _ => 4 - (intOf x5).toNat)
      case atStart => exact ⟨0, rfl, by omega, ⟨fun j hj => by omega⟩, rfl⟩
      case round =>
        obtain ⟨i, rfl, hi, HI, rfl⟩ := hrel
        by_cases d : i < 4
        · have dl : decide ((i : Int) < 4) = true := decide_eq_true (by omega)
          have b1 : (0 : Int) ≤ (i : Int) := by omega
          have b2 : (i : Int) < 4 := by omega
          have hw : wrap64 ((i : Int) + 1) = ((i + 1 : Nat) : Int) := by unfold wrap64; omega
          have f1 := HQ.out.cT d
          have f2 := HQ.out.cG d
          have f3 := HQ.out.cH d
          cases hG : q.G i <;> cases hH : q.H i <;> cases he : (q.T i).toList.isEmpty <;> cases m2 : decide (dims ≤ (i : Int)) <;> cases z2 : decide (16 < ((q.T i).size : Int))
          all_goals
            rw [hG] at f2
            rw [hH] at f3
            have m1 : decide ((i : Int) ≥ dims) = _ := m2
            have z1 : decide (((q.T i).size : Int) > 16) = _ := z2
            go_wp2
            first
              | (have hb : badQ q dims i = true := by simp only [badQ, hG, hH, he, m2, z2]; rfl
                 go_ret
                 exact ⟨by rw [← chk4 c1 c2 d hb, hr]; rfl, HB.out⟩)
              | (have hb : badQ q dims i = false := by simp only [badQ, hG, hH, he, m2, z2]; rfl
                 go_roundw
                 case rel =>
                   refine ⟨i + 1, rfl, by omega, ⟨fun j hj => ?_⟩, ?_⟩
                   · rcases Nat.lt_succ_iff_lt_or_eq.1 hj with h | h
                     · exact HI.out j h
                     · subst h; exact hb
                   · trivial
                 case measure => simp only [intOf]; omega)
        · have dl : decide ((i : Int) < 4) = false := decide_eq_false (by omega)
          have h0 := chk0 c1 c2 (fun j hj => HI.out j (by omega))
          go_wp2
          go_ret
          exact ⟨by rw [← h0, hr]; rfl, HB.out⟩
end As
end Go.Proofs.Ytjegkfdcelodeaa.P
