import Derived.Test.YtiokjjadpobciaaLn7
import Derived.Test.YtiokjjadpobciaaPx2
namespace Go.Proofs.Ytiokjjadpobciaa.P
open Go.RowKit Go.Conc Go.Proofs.YtiokjjadpobciaaW.PrintWords Go.Proofs.YtiokjjadpobciaaW.PrintLast Go.Proofs.YtiokjjadpobciaaW.PrintMore
attribute [local go_sem] max2_int min2_int max_two min_two max_three min_three max_four min_four
set_option linter.unusedVariables false
set_option linter.unusedSimpArgs false
namespace Ln
theorem add_plain' (b o k : Nat) : (⟨b, o, none⟩ : Addr).add k = ⟨b, o + k, none⟩ := by unfold Addr.add; simp
/-- A lane of the reference: its numbers lie in a row of numbers. -/
def Rw (W : World) (v : Value) (q : List Int) : Prop :=
  ∃ A c, v = .slice A q.length c ∧ q.length ≤ c ∧ q.length ≤ 9223372036854775807 ∧ (0 < q.length → ∃ b o cells, A = some ⟨b, o, none⟩ ∧ W.heap[b]? = some (.cells cells 2 (0, 0)) ∧ ∀ j, j < q.length → cells[o + j]? = some (.int .i64 (q.getD j 0)))
theorem Rw.C {W : World} {v : Value} {q : List Int} (h : Rw W v q) : ∃ A c, v = .slice A q.length c ∧ q.length ≤ c ∧ Kd.C (Kd.int .i64) W A q.length q := by
  obtain ⟨A, c, rfl, hc, hm, h⟩ := h
  refine ⟨A, c, rfl, hc, Kd.C_of_reads (d := (0 : Int)) ⟨rfl, hm, fun hp => ?_⟩⟩
  obtain ⟨b, o, cells, rfl, hb, hj⟩ := h hp
  refine ⟨⟨b, o, none⟩, rfl, fun j hl => ?_⟩
  rw [add_plain', blk_cell hb]
  exact hj j hl
theorem Rw.of_R {W : World} {base : Nat} {ok : Nat → Prop} {v : Value} {q : List Int} (h : Kd.R (Kd.int .i64) 2 W base ok v q) : Rw W v q := by
  obtain ⟨A, c, rfl, hc, hC⟩ := Kd.R_reads h
  refine ⟨A, c, rfl, hc, Kd.C_max hC, fun hp => ?_⟩
  obtain ⟨g, cap, e, hg, hgl, cells, hcell⟩ := Kd.R_form h hp
  injection e with e1 e2 e3
  subst e1
  refine ⟨g, 0, cells, rfl, hcell, fun j hj => ?_⟩
  obtain ⟨ad, e, hx⟩ := Kd.at_int hC (j : Int) (by omega) (by omega)
  obtain rfl := Option.some.inj e
  rw [Int.toNat_natCast, add_plain', blk_cell hcell] at hx
  simpa [rd] using hx
theorem Rw.move {W W' : World} {v : Value} {q : List Int} (h : Rw W v q) (hm : ∀ (k : Nat) (cells : Array Value), W.heap[k]? = some (Obj.cells cells 2 (0, 0)) → W'.heap[k]? = W.heap[k]?) : Rw W' v q := by
  obtain ⟨A, c, rfl, hc, hl, h⟩ := h
  refine ⟨A, c, rfl, hc, hl, fun hp => ?_⟩
  obtain ⟨b, o, cells, rfl, hb, hj⟩ := h hp
  exact ⟨b, o, cells, rfl, (hm b cells hb).trans hb, hj⟩
theorem Rw.nil (W : World) : Rw W (.slice none 0 0) [] := ⟨none, 0, rfl, by simp, by simp, fun h => absurd h (by simp)⟩
theorem Rw.tail {W : World} {A : Option Addr} {n c : Nat} {x : Int} {q : List Int} (h : Rw W (.slice A n c) (x :: q)) :
    n = q.length + 1 ∧ n ≤ c ∧ Rw W (.slice (if c = 1 then A else A.map (·.add 1)) (n - 1) (c - 1)) q := by
  obtain ⟨A2, c2, e, hc, hl, h⟩ := h
  injection e with e1 e2 e3
  subst e1; subst e2; subst e3
  simp only [List.length_cons] at hc hl h ⊢
  refine ⟨trivial, hc, _, _, rfl, by omega, by omega, fun hp => ?_⟩
  obtain ⟨b, o, cells, rfl, hb, hj⟩ := h (by omega)
  rw [if_neg (by omega)]
  refine ⟨b, o + 1, cells, by simp [add_plain'], hb, fun j hj2 => ?_⟩
  have := hj (j + 1) (by omega)
  rw [show o + (j + 1) = o + 1 + j from by omega] at this
  simpa using this
theorem Rw.cons {W : World} {v : Value} {x : Int} {q : List Int} (h : Rw W v (x :: q)) : ∃ b o c, v = .slice (some ⟨b, o, none⟩) (q.length + 1) c ∧ q.length + 1 ≤ c ∧ q.length + 1 ≤ 9223372036854775807 ∧ W.cell? ⟨b, o, none⟩ = some (.int .i64 x) ∧ Rw W (.slice (if c = 1 then some (⟨b, o, none⟩ : Addr) else (some (⟨b, o, none⟩ : Addr)).map (·.add 1)) q.length (c - 1)) q := by
  have h0 := h
  obtain ⟨A, c, rfl, hc, hl, h⟩ := h
  obtain ⟨b, o, cells, rfl, hb, hj⟩ := h (by simp)
  refine ⟨b, o, c, rfl, hc, by simpa using hl, ?_, ?_⟩
  · rw [blk_cell hb]; simpa using hj 0 (by simp)
  · exact (Rw.tail h0).2.2
/-- The reference's lanes: at h, their rows in the block m. -/
structure RfS (h m room : Nat) (vs : List Value) (L : List (List Int)) (W : World) : Prop where
  hb : W.heap[h]? = some (.cells #[.int .i64 room, .slice (some ⟨m, 0, none⟩) L.length L.length] 46 (0, 0))
  mb : W.heap[m]? = some (.cells vs.toArray 27 (0, 0))
  len : vs.length = L.length
  row : ∀ i v, vs[i]? = some v → Rw W v (L.getD i [])
def RfP (h m room : Nat) (L : List (List Int)) (W : World) : Prop := ∃ vs, RfS h m room vs L W
/-- What changes no block of cells of the kinds 2, 27 and 46 leaves the reference's lanes. -/
theorem RfS.move {h m room : Nat} {vs : List Value} {L : List (List Int)} {W W' : World} (hR : RfS h m room vs L W) (hm : ∀ (k : Nat) (cells : Array Value) (t : TypeId), W.heap[k]? = some (Obj.cells cells t (0, 0)) → t = 2 ∨ t = 27 ∨ t = 46 → W'.heap[k]? = W.heap[k]?) : RfS h m room vs L W' :=
  ⟨(hm _ _ _ hR.hb (by simp)).trans hR.hb, (hm _ _ _ hR.mb (by simp)).trans hR.mb, hR.len, fun i v hi => (hR.row i v hi).move (fun k cells hk => hm k cells 2 hk (by simp))⟩
theorem RfS.far {h m room : Nat} {vs : List Value} {L : List (List Int)} {W W' : World} (hR : RfS h m room vs L W) (hf : Far W W' (isCh W)) : RfS h m room vs L W' :=
  hR.move (fun k cells t hk _ => hf.block k (blk_lt hk) (fun ⟨_, _, _, _, _, _, e⟩ => by rw [hk] at e; simp at e))
theorem RfS.below {h m room : Nat} {vs : List Value} {L : List (List Int)} {W W' : World} (hR : RfS h m room vs L W) (hb : Below W.heap.size W W') : RfS h m room vs L W' :=
  hR.move (fun k cells t hk _ => hb.block k (blk_lt hk))
theorem RfP.far {h m room : Nat} {L : List (List Int)} {W W' : World} (hR : RfP h m room L W) (hf : Far W W' (isCh W)) : RfP h m room L W' := by
  obtain ⟨vs, hR⟩ := hR
  exact ⟨vs, hR.far hf⟩
theorem RfP.below {h m room : Nat} {L : List (List Int)} {W W' : World} (hR : RfP h m room L W) (hb : Below W.heap.size W W') : RfP h m room L W' := by
  obtain ⟨vs, hR⟩ := hR
  exact ⟨vs, hR.below hb⟩
/-- A lane is set. -/
theorem RfS.put {h m room : Nat} {vs : List Value} {L : List (List Int)} {W : World} (hR : RfS h m room vs L W) {i : Nat} (hi : i < L.length) {v : Value} {q : List Int} (hv : Rw W v q) : RfS h m room (vs.set i v) (L.set i q) (W.setCell ⟨m, i, none⟩ v) := by
  have hne : ∀ {k : Nat} {cells : Array Value} {t : TypeId}, W.heap[k]? = some (Obj.cells cells t (0, 0)) → t ≠ 27 → (W.setCell ⟨m, i, none⟩ v).heap[k]? = W.heap[k]? := by
    intro k cells t hk ht
    exact Below.heap_setCell W ⟨m, i, none⟩ v k (blk_ne hk hR.mb ht)
  refine ⟨?_, ?_, by simp [hR.len], fun j u hj => ?_⟩
  · rw [hne hR.hb (by decide), List.length_set]; exact hR.hb
  · rw [blk_set hR.mb]; simp
  · have hmv : ∀ {u p}, Rw W u p → Rw (W.setCell ⟨m, i, none⟩ v) u p := fun hh => hh.move (fun k cells hk => hne hk (by decide))
    by_cases e : j = i
    · subst e
      have hjl : j < vs.length := by rw [hR.len]; exact hi
      rw [List.getElem?_set_self hjl] at hj
      obtain rfl := Option.some.inj hj
      rw [List.getD_eq_getElem?_getD, List.getElem?_set_self hi]
      exact hmv hv
    · rw [List.getElem?_set_ne (Ne.symm e)] at hj
      rw [List.getD_eq_getElem?_getD, List.getElem?_set_ne (Ne.symm e), ← List.getD_eq_getElem?_getD]
      exact hmv (hR.row j u hj)
theorem RfS.cell {h m room : Nat} {vs : List Value} {L : List (List Int)} {W : World} (hR : RfS h m room vs L W) : W.cell? ⟨h, 0, none⟩ = some (.int .i64 room) ∧ W.cell? ⟨h, 1, none⟩ = some (.slice (some ⟨m, 0, none⟩) L.length L.length) := ⟨blk_cell hR.hb 0, blk_cell hR.hb 1⟩
theorem RfS.at {h m room : Nat} {vs : List Value} {L : List (List Int)} {W : World} (hR : RfS h m room vs L W) {i : Nat} (hi : i < L.length) : ∃ v, vs[i]? = some v ∧ W.cell? ⟨m, i, none⟩ = some v ∧ Rw W v (L.getD i []) := by
  have hl : i < vs.length := by rw [hR.len]; exact hi
  refine ⟨vs[i], by simp, ?_, hR.row i _ (by simp)⟩
  rw [blk_cell hR.mb]
  simp [hl]
/-- What a call on the reference's lanes leaves. -/
def RPost (B h m room : Nat) (L : List (List Int)) (w0 w w' : World) : Prop := RfP h m room L w' ∧ Below B w0 w' ∧ Far w w' (fun k => k = m)
theorem LnS.farM {B g room : Nat} {v : Value} {cs : List Nat} {L L2 : List (List Int)} {h m : Nat} {w w' : World} (hL : LnS B g v cs room L w) (hR : RfP h m room L2 w) (hf : Far w w' (fun k => k = m)) : LnS B g v cs room L w' := by
  obtain ⟨vs, hR⟩ := hR
  exact hL.move (fun k hk hn => hf.block k hk (fun e => hn ⟨vs.toArray, 27, by rw [e]; exact hR.mb, by decide, by decide⟩))
theorem LnP.farM {B g room : Nat} {L L2 : List (List Int)} {h m : Nat} {w w' : World} (hL : LnP B g room L w) (hR : RfP h m room L2 w) (hf : Far w w' (fun k => k = m)) : LnP B g room L w' := by
  obtain ⟨v, cs, hL⟩ := hL
  exact ⟨v, cs, hL.farM hR hf⟩
set_option maxHeartbeats 8000000 in
set_option maxRecDepth 100000 in
theorem Has.calls (h m room : Nat) (L : List (List Int)) (i : Int) (w : World) (hR : RfP h m room L w) :
    Calls Try.prog 18 #[.pointer (some ⟨h, 0, none⟩), .int .i64 i] w fun e w' => e = .returned (.bool (lane L i)) ∧ w' = w := by
  obtain ⟨vs, hR⟩ := hR
  obtain ⟨hc0, hc1⟩ := hR.cell
  unfold lane
  by_cases d : 0 ≤ i
  · have e1 : decide (0 ≤ i) = true := decide_eq_true d
    have e2 : decide (i ≥ 0) = true := decide_eq_true d
    rw [e1]
    go_enter Try.func18, Try.ntmps18
    go_wp2
    go_ret
    exact ⟨by simp, rfl⟩
  · have e1 : decide (0 ≤ i) = false := decide_eq_false d
    have e2 : decide (i ≥ 0) = false := decide_eq_false d
    rw [e1]
    go_enter Try.func18, Try.ntmps18
    go_wp2
    go_ret
    exact ⟨by simp, rfl⟩
end Ln
end Go.Proofs.Ytiokjjadpobciaa.P
