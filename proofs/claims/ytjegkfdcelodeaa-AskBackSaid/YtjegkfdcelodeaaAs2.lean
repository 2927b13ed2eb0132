import Derived.Test.YtjegkfdcelodeaaAs1
import Derived.ChangeKeysEq
import Derived.Laws.StructEq
namespace Go.Proofs.Ytjegkfdcelodeaa.P
open Go.RowKit Go.Proofs.YtjegkfdcelodeaaW.PrintWords Go.Proofs.YtjegkfdcelodeaaW.PrintLast Go.Proofs.YtjegkfdcelodeaaW.PrintMore
attribute [local go_sem] max2_int min2_int max_two min_two max_three min_three max_four min_four
set_option linter.unusedVariables false
set_option linter.unusedSimpArgs false
namespace As
/-- Two arrays of four one-cell elements, compared. -/
theorem eq_arr4 {P : Program} (W : World) (d : Nat) {t e : TypeId} (hu : P.underlying t = some (.array 4 e)) (hi : (P.info? e).isSome = true) (he : P.plainKey e = true) (hc : P.cellsOf e = 1)
    (a0 a1 a2 a3 b0 b1 b2 b3 : Value) (r0 r1 r2 r3 : Bool) (h0 : (Op.equalIn d e a0 b0).run P W = .ok r0 W) (h1 : (Op.equalIn d e a1 b1).run P W = .ok r1 W) (h2 : (Op.equalIn d e a2 b2).run P W = .ok r2 W) (h3 : (Op.equalIn d e a3 b3).run P W = .ok r3 W) :
    (Op.equalIn (d + 1) t (.agg #[a0, a1, a2, a3]) (.agg #[b0, b1, b2, b3])).run P W = .ok (r0 && r1 && r2 && r3) W := by
  obtain ⟨i, hi⟩ := Option.isSome_iff_exists.1 hi
  rw [run_equalIn_array W d _ _ hu hi, hc]
  have hl : List.range 4 = [0, 1, 2, 3] := rfl
  rw [hl]
  have p : ∀ (x0 x1 x2 x3 v : Value) (j : Nat), #[x0, x1, x2, x3][j]? = some v → (part e #[x0, x1, x2, x3] j).run P W = .ok v W := fun x0 x1 x2 x3 v j h => run_part_plain W he h
  have pa0 := p a0 a1 a2 a3 a0 0 rfl
  have pa1 := p a0 a1 a2 a3 a1 1 rfl
  have pa2 := p a0 a1 a2 a3 a2 2 rfl
  have pa3 := p a0 a1 a2 a3 a3 3 rfl
  have pb0 := p b0 b1 b2 b3 b0 0 rfl
  have pb1 := p b0 b1 b2 b3 b1 1 rfl
  have pb2 := p b0 b1 b2 b3 b2 2 rfl
  have pb3 := p b0 b1 b2 b3 b3 3 rfl
  clear p
  cases r0 <;> cases r1 <;> cases r2 <;> cases r3 <;> simp [Op.eqItems, pa0, pa1, pa2, pa3, pb0, pb1, pb2, pb3, h0, h1, h2, h3]
def eqS (a b : ByteArray) : Bool := a.toList == b.toList
theorem eqS_comm (a b : ByteArray) : eqS a b = eqS b a := by unfold eqS; exact Bool.beq_comm
theorem eqS_refl (a : ByteArray) : eqS a a = true := by unfold eqS; simp
theorem eq56 (d : Nat) (W : World) (a0 a1 a2 a3 b0 b1 b2 b3 : ByteArray) : (Op.equalIn (d + 2) 56 (.agg #[.string a0, .string a1, .string a2, .string a3]) (.agg #[.string b0, .string b1, .string b2, .string b3])).run Try.prog W = .ok (eqS a0 b0 && eqS a1 b1 && eqS a2 b2 && eqS a3 b3) W :=
  eq_arr4 W (d + 1) Try.underlying56 (by kernel_rfl) (by kernel_rfl) (by kernel_rfl) _ _ _ _ _ _ _ _ _ _ _ _ (run_equalIn_string W d 9 _ _ Try.underlying9) (run_equalIn_string W d 9 _ _ Try.underlying9) (run_equalIn_string W d 9 _ _ Try.underlying9) (run_equalIn_string W d 9 _ _ Try.underlying9)
/-- The key, with text s at i. -/
def setKy (k : Ky) (i : Nat) (s : ByteArray) : Ky := ⟨k.h, fun j => if j = i then s else k.D j⟩
structure KB (p : Nat) (k : Ky) (W : World) : Prop where
  blk : W.heap[p]? = some (.cells k.cells 60 (0, 0))
theorem KB.ch {p : Nat} {k : Ky} {W : World} (h : KB p k W) : W.cell? ⟨p, 0, none⟩ = some (.int .i64 k.h) := blk_cell h.blk 0
theorem KB.cD {p : Nat} {k : Ky} {W : World} (h : KB p k W) {i : Nat} (hi : i < 4) : W.cell? ⟨p, 1 + i, none⟩ = some (.string (k.D i)) := by
  rcases lt4 hi with rfl | rfl | rfl | rfl <;> exact blk_cell h.blk _
theorem KB.fr {p : Nat} {k : Ky} {W : World} (h : KB p k W) (i : Nat) : W.frozen? ⟨p, i, none⟩ = false := blk_frozen h.blk i
theorem KB.set {p : Nat} {k k' : Ky} {W : World} (h : KB p k W) {i : Nat} (hi : i < 4) (s : ByteArray) (hk : (setKy k i s).cells = k'.cells) : KB p k' (W.setCell ⟨p, 1 + i, none⟩ (.string s)) := by
  refine ⟨?_⟩
  rw [blk_set h.blk, ← hk]
  rcases lt4 hi with rfl | rfl | rfl | rfl <;> simp [Ky.cells, setKy]
theorem KB.eq {p : Nat} {k k' : Ky} {W : World} (h : KB p k W) (hk : k.cells = k'.cells) : KB p k' W := ⟨by rw [← hk]; exact h.blk⟩
theorem QB.below {p : Nat} {q : Qy} {w w' : World} (h : QB p q w) (hb : Below w.heap.size w w') : QB p q w' := ⟨blk_below h.blk hb⟩
theorem QB.set {p r : Nat} {q : Qy} {W : World} (h : QB p q W) (hp : p ≠ r) (j : Nat) (u : Value) : QB p q (W.setCell ⟨r, j, none⟩ u) := ⟨blk_far h.blk hp u⟩
theorem KB.below {p : Nat} {k : Ky} {w w' : World} (h : KB p k w) (hb : Below w.heap.size w w') : KB p k w' := ⟨blk_below h.blk hb⟩
theorem KB.other {p r : Nat} {k : Ky} {W : World} (h : KB p k W) (hp : p ≠ r) (j : Nat) (u : Value) : KB p k (W.setCell ⟨r, j, none⟩ u) := ⟨blk_far h.blk hp u⟩
/-- Which keys match a query. -/
def mt (q : Qy) (k : Ky) (i : Nat) : Bool := !q.H i || eqS (q.T i) (k.D i)
def rngV (q : Qy) (k : Ky) : Bool := decide (q.a ≤ k.h) && decide (k.h < q.b)
def matV (q : Qy) (k : Ky) : Bool := rngV q k && (mt q k 0 && mt q k 1 && mt q k 2 && mt q k 3)
theorem matV_false {q : Qy} {k : Ky} {i : Nat} (hi : i < 4) (h : mt q k i = false) : matV q k = false := by
  unfold matV
  rcases lt4 hi with rfl | rfl | rfl | rfl <;> rw [h] <;> simp
theorem matV_true {q : Qy} {k : Ky} (hr : rngV q k = true) (h : ∀ i, i < 4 → mt q k i = true) : matV q k = true := by
  unfold matV
  rw [hr, h 0 (by omega), h 1 (by omega), h 2 (by omega), h 3 (by omega)]
  rfl
theorem matV_rng {q : Qy} {k : Ky} (h : rngV q k = false) : matV q k = false := by unfold matV; rw [h]; rfl
def fillK (q : Qy) (k : Ky) (i : Nat) : Ky := ⟨k.h, fun j => if j < i ∧ q.H j = false then q.T j else k.D j⟩
theorem fill0 (q : Qy) (k : Ky) : k.cells = (fillK q k 0).cells := by simp [Ky.cells, fillK]
theorem fill_skip (q : Qy) (k : Ky) {i : Nat} (hi : i < 4) (h : q.H i = true) : (fillK q k i).cells = (fillK q k (i + 1)).cells := by
  rcases lt4 hi with rfl | rfl | rfl | rfl <;> simp [Ky.cells, fillK, h]
theorem fill_set (q : Qy) (k : Ky) {i : Nat} (hi : i < 4) (h : q.H i = false) : (setKy (fillK q k i) i (q.T i)).cells = (fillK q k (i + 1)).cells := by
  rcases lt4 hi with rfl | rfl | rfl | rfl <;> simp [Ky.cells, fillK, setKy, h]
theorem fill_mt (q : Qy) (k : Ky) {i : Nat} (hi : i < 4) : eqS ((fillK q k 4).D i) (q.T i) = mt q k i := by
  simp only [fillK, mt]
  cases h : q.H i
  · simp [hi, eqS_refl]
  · simp [eqS_comm]
set_option maxHeartbeats 8000000 in
set_option maxRecDepth 100000 in
theorem Matches.calls (q : Qy) (k : Ky) (r : Bool) (w : World) (hr : matV q k = r) :
    Calls Try.prog 40 #[.agg q.cells, .agg k.cells] w fun e w' => e = .returned (.bool r) ∧ Below w.heap.size w w' := by
  have HQ := Aside0.mk ((QB.new q w).below ((Below.refl _ _).alloc (Nat.le_refl _) (.cells k.cells 60 (0, 0))))
  have HB := Aside0.mk (show Below w.heap.size w ((w.alloc (.cells q.cells 58 (0, 0))).alloc (.cells k.cells 60 (0, 0))) from ((Below.refl _ w).alloc (Nat.le_refl _) _).alloc (by simp) _)
  have HK := Aside0.mk (KB.mk (show ((w.alloc (.cells q.cells 58 (0, 0))).alloc (.cells k.cells 60 (0, 0))).heap[w.heap.size + 1]? = some (.cells k.cells 60 (0, 0)) by simpa using blk_new (w.alloc (.cells q.cells 58 (0, 0))) (.cells k.cells 60 (0, 0))))
  have HK0 := Aside0.mk (HK.out.eq (fill0 q k))
  clear HK
  unfold Qy.cells Ky.cells at HQ HB HK0 ⊢
  go_enter Try.func40, Try.ntmps40
  go_wp2
  generalize World.alloc _ _ = W at HQ HB HK0 ⊢
  go_loopw [5, 6, 9] (fun x5 x6 x9 wr => ∃ i : Nat, x9 = .int .i64 i ∧ i ≤ 4 ∧ Aside0 (QB w.heap.size q wr) ∧ Aside0 (KB (w.heap.size + 1) (fillK q k i) wr) ∧ Aside0 (Below w.heap.size w wr)) (fun _ _ x9 _ => 4 - (intOf x9).toNat)
  case atStart => exact ⟨0, rfl, by omega, HQ, HK0, HB⟩
  case round =>
    clear HQ HK0 HB
    obtain ⟨i, rfl, hi, HQ, HK, HB⟩ := hrel
    by_cases d : i < 4
    · have dl : decide ((i : Int) < 4) = true := decide_eq_true (by omega)
      have b1 : (0 : Int) ≤ (i : Int) := by omega
      have b2 : (i : Int) < 4 := by omega
      have hw : wrap64 ((i : Int) + 1) = ((i + 1 : Nat) : Int) := by unfold wrap64; omega
      have hix := idx_b q.H d
      have f1 := HQ.out.cT d
      have f2 := HK.out.cD d
      have f3 := HK.out.fr (1 + i)
      cases hH : q.H i
      · rw [hH] at hix
        go_wp2
        go_roundw
        case rel =>
          refine ⟨i + 1, rfl, by omega, ⟨HQ.out.set (by omega) _ _⟩, ⟨HK.out.set d _ (fill_set q k d hH)⟩, ⟨HB.out.setCell (by simp) _⟩⟩
        case measure => simp only [intOf]; omega
      · rw [hH] at hix
        go_wp2
        go_roundw
        case rel => exact ⟨i + 1, rfl, by omega, HQ, ⟨HK.out.eq (fill_skip q k d hH)⟩, HB⟩
        case measure => simp only [intOf]; omega
    · obtain rfl : i = 4 := by omega
      have dl : decide (((4 : Nat) : Int) < 4) = false := rfl
      have g1 : _ = some (Value.string ((fillK q k 4).D 0)) := blk_cell HK.out.blk 1
      have g2 : _ = some (Value.string ((fillK q k 4).D 1)) := blk_cell HK.out.blk 2
      have g3 : _ = some (Value.string ((fillK q k 4).D 2)) := blk_cell HK.out.blk 3
      have g4 : _ = some (Value.string ((fillK q k 4).D 3)) := blk_cell HK.out.blk 4
      have p0 := HQ.out.ca
      have p1 := HQ.out.cb
      have q0 : _ = some (Value.string (q.T 0)) := blk_cell HQ.out.blk 10
      have q1 : _ = some (Value.string (q.T 1)) := blk_cell HQ.out.blk 11
      have q2 : _ = some (Value.string (q.T 2)) := blk_cell HQ.out.blk 12
      have q3 : _ = some (Value.string (q.T 3)) := blk_cell HQ.out.blk 13
      have g0 : _ = some (Value.int .i64 k.h) := HK.out.ch
      have m0 := fill_mt q k (show 0 < 4 by omega)
      have m1 := fill_mt q k (show 1 < 4 by omega)
      have m2 := fill_mt q k (show 2 < 4 by omega)
      have m3 := fill_mt q k (show 3 < 4 by omega)
      generalize (fillK q k 4).D 0 = d0 at g1 m0
      generalize (fillK q k 4).D 1 = d1 at g2 m1
      generalize (fillK q k 4).D 2 = d2 at g3 m2
      generalize (fillK q k 4).D 3 = d3 at g4 m3
      have heq : ∀ W : World, (Op.equalIn 10000 56 (.agg #[.string d0, .string d1, .string d2, .string d3]) (.agg #[.string (q.T 0), .string (q.T 1), .string (q.T 2), .string (q.T 3)])).run Try.prog W = .ok (mt q k 0 && mt q k 1 && mt q k 2 && mt q k 3) W := by
        intro W
        rw [eq56 9998 W, m0, m1, m2, m3]
      have hmv : (rngV q k && (mt q k 0 && mt q k 1 && mt q k 2 && mt q k 3)) = r := by rw [← hr]; rfl
      generalize (mt q k 0 && mt q k 1 && mt q k 2 && mt q k 3) = mm at heq hmv
      clear m0 m1 m2 m3 HQ HK hr
      unfold rngV at hmv
      cases e1 : decide (q.a ≤ k.h) <;> cases e2 : decide (k.h < q.b)
      all_goals
        rw [e1, e2] at hmv
        have e1' : decide (k.h ≥ q.a) = _ := e1
        subst hmv
        go_wp2
        go_ret
        exact ⟨by simp, HB.out⟩
set_option maxHeartbeats 8000000 in
set_option maxRecDepth 100000 in
theorem RMatches.calls (q : Qy) (k : Ky) (r : Bool) (w : World) (hr : matV q k = r) :
    Calls Try.prog 41 #[.agg q.cells, .agg k.cells] w fun e w' => e = .returned (.bool r) ∧ Below w.heap.size w w' := by
  have HQ := Aside0.mk ((QB.new q w).below ((Below.refl _ _).alloc (Nat.le_refl _) (.cells k.cells 60 (0, 0))))
  have HB := Aside0.mk (show Below w.heap.size w ((w.alloc (.cells q.cells 58 (0, 0))).alloc (.cells k.cells 60 (0, 0))) from ((Below.refl _ w).alloc (Nat.le_refl _) _).alloc (by simp) _)
  have HK := Aside0.mk (KB.mk (show ((w.alloc (.cells q.cells 58 (0, 0))).alloc (.cells k.cells 60 (0, 0))).heap[w.heap.size + 1]? = some (.cells k.cells 60 (0, 0)) by simpa using blk_new (w.alloc (.cells q.cells 58 (0, 0))) (.cells k.cells 60 (0, 0))))
  unfold Qy.cells Ky.cells at HQ HB HK ⊢
  cases e1 : decide (k.h < q.a) <;> cases e2 : decide (q.b ≤ k.h)
  case true.true | true.false | false.true =>
    all_goals
      have hrf : r = false := by
        rw [← hr]
        apply matV_rng
        unfold rngV
        simp at e1 e2 ⊢
        omega
      subst hrf
      have e2' : decide (k.h ≥ q.b) = _ := e2
      go_enter Try.func41, Try.ntmps41
      go_wp2
      go_ret
      exact ⟨rfl, HB.out⟩
  case false.false =>
    have e2' : decide (k.h ≥ q.b) = _ := e2
    have hrng : rngV q k = true := by
      unfold rngV
      simp at e1 e2 ⊢
      omega
    go_enter Try.func41, Try.ntmps41
    go_wp2
    generalize World.alloc _ _ = W at HQ HB HK ⊢
    go_loopw [5] (fun x5 wr => ∃ i : Nat, x5 = .int .i64 i ∧ i ≤ 4 ∧ Aside0 (∀ j, j < i → mt q k j = true) ∧ Aside0 (QB w.heap.size q wr) ∧ Aside0 (KB (w.heap.size + 1) k wr) ∧ Aside0 (Below w.heap.size w wr)) (fun x5 _ => 4 - (intOf x5).toNat)
    case atStart => exact ⟨0, rfl, by omega, ⟨fun j hj => by omega⟩, HQ, HK, HB⟩
    case round =>
      clear HQ HK HB
      obtain ⟨i, rfl, hi, HI, HQ, HK, HB⟩ := hrel
      by_cases d : i < 4
      · have dl : decide ((i : Int) < 4) = true := decide_eq_true (by omega)
        have b1 : (0 : Int) ≤ (i : Int) := by omega
        have b2 : (i : Int) < 4 := by omega
        have hw : wrap64 ((i : Int) + 1) = ((i + 1 : Nat) : Int) := by unfold wrap64; omega
        have f1 := HQ.out.cT d
        have f2 := HK.out.cD d
        have f3 := HQ.out.cH d
        cases hH : q.H i
        · rw [hH] at f3
          go_wp2_with fail
          go_quiet (fail)
          have HB2 := Aside0.mk (pw_below_drewN HB.out nq)
          have HQ2 := Aside0.mk (HQ.out.below (pw_below_drewN (Below.refl _ _) nq))
          have HK2 := Aside0.mk (HK.out.below (pw_below_drewN (Below.refl _ _) nq))
          clear f1 f2 f3 HQ HK HB
          have HI2 := Aside0.mk (show ∀ j, j < i + 1 → mt q k j = true from fun j hj => by
            rcases Nat.lt_succ_iff_lt_or_eq.1 hj with h | h
            · exact HI.out j h
            · subst h; simp [mt, hH])
          go_wp2
          go_roundw
          case rel => exact ⟨i + 1, rfl, by omega, HI2, HQ2, HK2, HB2⟩
          case measure => simp only [intOf]; omega
        · rw [hH] at f3
          cases hE : eqS (q.T i) (k.D i)
          · have hE1 : ((q.T i).toList == (k.D i).toList) = false := hE
            have hE2 : ((q.T i).toList != (k.D i).toList) = true := by rw [bne, hE1]; rfl
            have hE3 : (!((q.T i).toList == (k.D i).toList)) = true := by rw [hE1]; rfl
            go_wp2_with fail
            go_quiet (fail)
            have HB2 := Aside0.mk (pw_below_drewN HB.out nq)
            have hrf : r = false := by rw [← hr]; exact matV_false d (by simp [mt, hH, hE])
            subst hrf
            clear f1 f2 f3 HQ HK HB
            go_wp2
            go_ret
            exact ⟨rfl, HB2.out⟩
          · have hE1 : ((q.T i).toList == (k.D i).toList) = true := hE
            have hE2 : ((q.T i).toList != (k.D i).toList) = false := by rw [bne, hE1]; rfl
            have hE3 : (!((q.T i).toList == (k.D i).toList)) = false := by rw [hE1]; rfl
            go_wp2_with fail
            go_quiet (fail)
            have HB2 := Aside0.mk (pw_below_drewN HB.out nq)
            have HQ2 := Aside0.mk (HQ.out.below (pw_below_drewN (Below.refl _ _) nq))
            have HK2 := Aside0.mk (HK.out.below (pw_below_drewN (Below.refl _ _) nq))
            clear f1 f2 f3 HQ HK HB
            have HI2 := Aside0.mk (show ∀ j, j < i + 1 → mt q k j = true from fun j hj => by
              rcases Nat.lt_succ_iff_lt_or_eq.1 hj with h | h
              · exact HI.out j h
              · subst h; simp [mt, hH, hE])
            go_wp2
            go_roundw
            case rel => exact ⟨i + 1, rfl, by omega, HI2, HQ2, HK2, HB2⟩
            case measure => simp only [intOf]; omega
      · have dl : decide ((i : Int) < 4) = false := decide_eq_false (by omega)
        have hrt : r = true := by rw [← hr]; exact matV_true hrng (fun j hj => HI.out j (by omega))
        subst hrt
        go_wp2
        go_ret
        exact ⟨rfl, HB.out⟩
/-- The group of a key. -/
def grpV (q : Qy) (k : Ky) : Ky := ⟨0, fun i => if q.G i then k.D i else { data := #[] }⟩
def grpI (q : Qy) (k : Ky) (i : Nat) : Ky := ⟨0, fun j => if j < i ∧ q.G j = true then k.D j else { data := #[] }⟩
theorem grp_end (q : Qy) (k : Ky) : (grpI q k 4).cells = (grpV q k).cells := by simp [Ky.cells, grpI, grpV]
theorem grp_skip (q : Qy) (k : Ky) {i : Nat} (hi : i < 4) (h : q.G i = false) : (grpI q k i).cells = (grpI q k (i + 1)).cells := by
  rcases lt4 hi with rfl | rfl | rfl | rfl <;> simp [Ky.cells, grpI, h]
theorem grp_set (q : Qy) (k : Ky) {i : Nat} (hi : i < 4) (h : q.G i = true) : (setKy (grpI q k i) i (k.D i)).cells = (grpI q k (i + 1)).cells := by
  rcases lt4 hi with rfl | rfl | rfl | rfl <;> simp [Ky.cells, grpI, setKy, h]
structure K5 (p B : Nat) (w0 : World) (cs : Array Value) (w : World) : Prop where
  heap : w.heap[p]? = some (.cells cs 60 (0, 0))
  below : Below B w0 w
theorem K5.step {p B : Nat} {w0 w : World} {cs cs' : Array Value} (h : K5 p B w0 cs w) (hB : B ≤ p) (i : Nat) (u : Value) (e : cs.setIfInBounds i u = cs') : K5 p B w0 cs' (w.setCell ⟨p, i, none⟩ u) :=
  ⟨blk_put h.heap i u e, h.below.setCell hB u⟩
theorem fin5 {p B : Nat} {w0 w : World} {a0 a1 a2 a3 a4 : Value} (k : Ky) (hk : w.heap[p]? = some (.cells #[a0, a1, a2, a3, a4] 60 (0, 0))) (hb : Below B w0 w) (hB : B ≤ p) :
    K5 p B w0 k.cells (((((w.setCell ⟨p, 0, none⟩ (.int .i64 k.h)).setCell ⟨p, 1, none⟩ (.string (k.D 0))).setCell ⟨p, 2, none⟩ (.string (k.D 1))).setCell ⟨p, 3, none⟩ (.string (k.D 2))).setCell ⟨p, 4, none⟩ (.string (k.D 3))) := by
  have s0 : K5 p B w0 _ w := ⟨hk, hb⟩
  have s1 := s0.step hB 0 (.int .i64 k.h) (cs' := #[.int .i64 k.h, a1, a2, a3, a4]) rfl
  have s2 := s1.step hB 1 (.string (k.D 0)) (cs' := #[.int .i64 k.h, .string (k.D 0), a2, a3, a4]) rfl
  have s3 := s2.step hB 2 (.string (k.D 1)) (cs' := #[.int .i64 k.h, .string (k.D 0), .string (k.D 1), a3, a4]) rfl
  have s4 := s3.step hB 3 (.string (k.D 2)) (cs' := #[.int .i64 k.h, .string (k.D 0), .string (k.D 1), .string (k.D 2), a4]) rfl
  exact s4.step hB 4 (.string (k.D 3)) (cs' := k.cells) rfl
end As
end Go.Proofs.Ytjegkfdcelodeaa.P
