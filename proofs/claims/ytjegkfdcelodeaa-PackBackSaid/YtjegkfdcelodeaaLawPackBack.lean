import Derived.Test.YtjegkfdcelodeaaRows
import Derived.Test.YtjegkfdcelodeaaSayPackBack
import Derived.Test.YtjegkfdcelodeaaPurePackBack
import Derived.WalkKit
import Derived.ProofKit
import Derived.OpenShut
import Derived.ShutString
import Derived.ChangeOld
import Derived.Below
import Derived.SizedLaws
import Derived.Carry
import Derived.Lib.SmallJoins
import Derived.Test.YtjegkfdcelodeaaWSized
namespace Go.Proofs.Ytjegkfdcelodeaa.packBack
open Go.ChangeShapes Go.WideShapes Go.ChangeAt Go.RowKit Go.Joins Go.Deep
open Go.ChangeMaps (open_string shut_string)
set_option linter.unusedVariables false
set_option linter.unusedSimpArgs false
theorem own : ownKnob Try.prog.godebug = none := by kernel_rfl
open Go.Proofs.YtjegkfdcelodeaaW.PrintWords Go.Proofs.YtjegkfdcelodeaaW.PrintLast
def IsRow (k : IntKind) (w : World) (a : Option Addr) (len cap : Nat) (zs : List Int) : Prop :=
  (a = none ∧ len = 0 ∧ cap = 0 ∧ zs = []) ∨
  ∃ x, a = some x ∧ len ≤ cap ∧ cap ≤ maxLen ∧ zs.length = cap ∧ (∀ i, i < zs.length → w.cell? (x.add i) = some (.int k (zs.getD i 0))) ∧ ∀ n ∈ zs, (Lit.int k n).wf = true
theorem laidOut : laidOutB Try.prog = true := by kernel_rfl
set_option maxRecDepth 100000 in
/-- An element, laid open. -/
theorem open_el52 {H : Type} {enc : TypeId × Value → H} {w : World} {base : Nat} {spare : Nat → Bool} {held : Bool} {fuel : Nat} {cs : List Value} {x : DataW H × List MemPlace} (hl : cs.length = 6) (hf : DataW.trod enc Try.prog w base spare held fuel 52 cs = some x) :
    ∃ q : P.S52, cs = [.int .i64 q.f0, .int .i64 q.f1, .int .u64 q.f2, .int .i64 q.f3, .string q.f4, .bool q.f5] ∧ (Lit.int .i64 q.f0).wf = true ∧ (Lit.int .i64 q.f1).wf = true ∧ (Lit.int .u64 q.f2).wf = true ∧ (Lit.int .i64 q.f3).wf = true ∧ q.f4.size ≤ maxLen := by
  match cs, hl with
  | [c0, c1, c2, c3, c4, c5], _ =>
    obtain ⟨xs, n, _, hx, _, hlen, hg⟩ := DataW.trod_struct Try.underlying52 hf
    have hone : oneCellFields Try.prog _ = true := (by kernel_rfl : oneCellFields Try.prog (match Try.prog.underlying 52 with | some (.struct fs) => fs | _ => #[]) = true)
    obtain ⟨o0, k0⟩ := hone_of hone 0 _ rfl
    obtain ⟨o1, k1⟩ := hone_of hone 1 _ rfl
    obtain ⟨o2, k2⟩ := hone_of hone 2 _ rfl
    obtain ⟨o3, k3⟩ := hone_of hone 3 _ rfl
    obtain ⟨o4, k4⟩ := hone_of hone 4 _ rfl
    obtain ⟨o5, k5⟩ := hone_of hone 5 _ rfl
    match xs, hlen with
    | [y0, y1, y2, y3, y4, y5], _ =>
      have g0 := hg 0 _ rfl
      simp [o0, k0] at g0
      obtain ⟨a0, e0, _, w0⟩ := DataW.trod_int Try.underlying3 g0
      obtain rfl := (List.cons.inj e0).1
      have g1 := hg 1 _ rfl
      simp [o1, k1] at g1
      obtain ⟨a1, e1, _, w1⟩ := DataW.trod_int Try.underlying3 g1
      obtain rfl := (List.cons.inj e1).1
      have g2 := hg 2 _ rfl
      simp [o2, k2] at g2
      obtain ⟨a2, e2, _, w2⟩ := DataW.trod_int Try.underlying37 g2
      obtain rfl := (List.cons.inj e2).1
      have g3 := hg 3 _ rfl
      simp [o3, k3] at g3
      obtain ⟨a3, e3, _, w3⟩ := DataW.trod_int Try.underlying2 g3
      obtain rfl := (List.cons.inj e3).1
      have g4 := hg 4 _ rfl
      simp [o4, k4] at g4
      obtain ⟨a4, e4, _, w4⟩ := DataW.trod_string Try.underlying9 g4
      obtain rfl := (List.cons.inj e4).1
      have g5 := hg 5 _ rfl
      simp [o5, k5] at g5
      obtain ⟨a5, e5, _⟩ := DataW.trod_bool Try.underlying4 g5
      obtain rfl := (List.cons.inj e5).1
      exact ⟨⟨a0, a1, a2, a3, a4, a5⟩, rfl, w0, w1, w2, w3, w4⟩
set_option maxRecDepth 100000 in
/-- A slice of them. -/
theorem open_ss52 {H : Type} {enc : TypeId × Value → H} {w : World} {base : Nat} {spare : Nat → Bool} {held : Bool} {a : Option Addr} {len cap : Nat} {d : DataW H} {p : List MemPlace} (h : DataW.Trod enc Try.prog w base spare held 48 (.slice a len cap) d p) :
    ∃ l : List P.S52, len = l.length ∧ Kd.C P.k52 w a l.length l ∧ l.length ≤ cap ∧ ∀ q ∈ l, (Lit.int .i64 q.f0).wf = true ∧ (Lit.int .i64 q.f1).wf = true ∧ (Lit.int .u64 q.f2).wf = true ∧ (Lit.int .i64 q.f3).wf = true ∧ q.f4.size ≤ maxLen := by
  obtain ⟨fuel, hf⟩ := h
  have hC : Try.prog.cellsOf 52 = 6 := by kernel_rfl
  rcases open_slice Try.underlying48 hf with ⟨hcs, _⟩ | ⟨ad, len', cap', m, n, D, Pl, hcs, _, hl, hm, hmm, _, hi⟩
  · simp [Value.cells] at hcs
    obtain ⟨rfl, rfl, rfl⟩ := hcs
    exact ⟨[], rfl, ⟨rfl, by simp, fun h => absurd h (by simp)⟩, by simp, by simp⟩
  · simp [Value.cells] at hcs
    obtain ⟨rfl, rfl, rfl⟩ := hcs
    have hml : len ≤ m := by rw [hmm]; split <;> omega
    have hel : ∀ i : Nat, ∃ q : P.S52, i < len → ((Lit.int .i64 q.f0).wf = true ∧ (Lit.int .i64 q.f1).wf = true ∧ (Lit.int .u64 q.f2).wf = true ∧ (Lit.int .i64 q.f3).wf = true ∧ q.f4.size ≤ maxLen) ∧ ∀ (j : Nat) (u : Value), [.int .i64 q.f0, .int .i64 q.f1, .int .u64 q.f2, .int .i64 q.f3, .string q.f4, .bool q.f5][j]? = some u → w.cell? (ad.add (i * 6 + j)) = some u := by
      intro i
      by_cases hil : i < len
      · obtain ⟨cs', hc, ht⟩ := hi i (by omega)
        rw [hC] at hc
        obtain ⟨_, hcl, hat⟩ := World.cells?_some hc
        obtain ⟨q, rfl, hw⟩ := open_el52 hcl ht
        refine ⟨q, fun _ => ⟨hw, fun j u hj => ?_⟩⟩
        have hj6 : j < 6 := by have := (List.getElem?_eq_some_iff.1 hj).1; simpa using this
        have := hat j hj6
        rw [← Go.Deep.add_add, this]
        exact hj
      · exact ⟨P.z52, fun h => absurd h hil⟩
    have hg : ∀ (j : Nat) (q : P.S52), ((List.range len).map fun i => Classical.choose (hel i))[j]? = some q → j < len ∧ q = Classical.choose (hel j) := by
      intro j q hq
      rw [List.getElem?_map] at hq
      obtain ⟨i, hi1, hi2⟩ := Option.map_eq_some_iff.1 hq
      have hjl : j < len := by have := (List.getElem?_eq_some_iff.1 hi1).1; simpa using this
      rw [List.getElem?_range hjl] at hi1
      obtain rfl := Option.some.inj hi1
      exact ⟨hjl, hi2.symm⟩
    refine ⟨(List.range len).map fun i => Classical.choose (hel i), by simp, ⟨rfl, by simp only [List.length_map, List.length_range]; simp only [maxLen] at hm; omega, fun _ => ⟨ad, rfl, fun j q hq => ?_⟩⟩, by simpa using hl, fun q hq => ?_⟩
    · obtain ⟨hjl, rfl⟩ := hg j q hq
      exact ⟨_, rfl, P.k52_mk w _, (Classical.choose_spec (hel j) hjl).2⟩
    · obtain ⟨j, hj⟩ := List.mem_iff_getElem?.1 hq
      obtain ⟨hjl, rfl⟩ := hg j q hj
      exact (Classical.choose_spec (hel j) hjl).1
set_option maxRecDepth 100000 in
theorem lifted (os : Os) (started : os.Started) (H : Type) (enc : TypeId × Value → H) :
    ReturnsInHanded {} Try.checked os 11 .any (Rows.packBackSpec.pre6 enc Try.prog Try.f11 Rows.packBackRow.domain false) (Rows.packBackSpec.post enc Try.prog Try.f11 false true false false) := by
  refine returnsInHanded_of_change_sized (C := Try.checked) own started (by kernel_rfl) Try.func11
    (ChangeSpec.witness6 (enc := enc) (C := Try.checked) false ⟨#[], #[.slice none 0 0, .int .i64 0], []⟩ 8 (by kernel_rfl) (by kernel_rfl) (by kernel_rfl) (by kernel_rfl)) ?_
  intro W base args ds gs before hval0 hW hcnd hsz0 _
  have hsz : (DataW.weightsEach Try.prog (Try.f11.params.toList ++ Rows.packBackSpec.plain.varTypes Try.prog) (ds ++ gs)).all (· ≤ reachBytes) = true := hsz0
  have hval : ∀ (j : Nat) t v, Try.f11.params[j]? = some t → args[j]? = some v → Value.okWide Try.prog W .any base t v := hval0
  have hW' := hW
  obtain ⟨p, q, hA0, hV, rfl, hfz, hnd⟩ := hW
  have hA : DataW.TrodAll enc Try.prog W 0 (fun _ => true) true Try.f11.params.toList args.toList ds p := hA0
  rw [Try.params11] at hA hval hsz
  obtain ⟨v0, vs0, d0, ds0, p0, q0, hargs, rfl, rfl, h0, r0⟩ := trodAll_cons hA
  obtain ⟨v1, vs1, d1, ds1, p1, q1, rfl, rfl, rfl, h1, r1⟩ := trodAll_cons r0
  obtain ⟨rfl, rfl, rfl⟩ := trodAll_nil r1
  obtain rfl : args = #[v0, v1] := by cases args; simp_all
  obtain ⟨rfl, rfl⟩ := trodVars_none hV
  obtain ⟨a0, len0, cap0, rfl⟩ := okWide_slice Try.underlying48 (hval 0 48 v0 rfl rfl)
  have k0 := h0
  have lt0 : ∀ x ∈ p0, x.block < W.heap.size := by obtain ⟨m, hm⟩ := k0; exact DataW.trod_lt m _ _ _ hm
  obtain ⟨l0, rfl, hC0, hc0, hw0⟩ := open_ss52 h0
  obtain ⟨a1, rfl, rfl, rfl, w1⟩ := open_int Try.underlying3 (hval 1 3 v1 rfl rfl) h1
  clear hA0 hval0 hsz0 hsz
  have hk := Pure.PackBack l0 a1 hw0 w1
  refine (P.ossuarylaw01_PackBack.calls _ _ l0 a1 true W hC0 hc0 hk).mono fun e W' ⟨he, bel⟩ => ?_
  subst he
  exact ⟨_, rfl, _, _, _, [], _, [], hW', trodAll_mk1 (shut_bool Try.underlying4 _), (trodAll_cons_mk (Below.trod laidOut (by kernel_rfl) (of_decide_eq_true (by kernel_rfl)) k0 bel lt0) (trodAll_cons_mk (shut_int Try.underlying3 w1) trodAll_mk0)), rfl, bel.frame _, fun h => by cases h⟩
theorem over : Rows.packBackRow.holds Try.pinned (OpenSpec.ofChange Rows.packBackSpec) :=
  OpenClaim.holds_of_wide 11 Try.f11 rfl rfl rfl rfl rfl rfl rfl ⟨rfl, rfl, rfl, rfl, rfl⟩ rfl rfl rfl rfl rfl (by kernel_rfl) Try.func11 (by kernel_rfl)
    (of_decide_eq_true (by kernel_rfl)) (by unfold Func.isWrapper; first | (rw [if_pos (by decide +kernel)]; kernel_rfl) | (rw [if_neg (by decide +kernel)]; exact ⟨rfl, rfl⟩))
    (fun os started H enc _ => lifted os started H enc)
theorem proved : Rows.PackBackSaid := over
#print axioms proved
end Go.Proofs.Ytjegkfdcelodeaa.packBack
namespace Go.Proofs.Ytjegkfdcelodeaa
/-- The row, under a short name, for the claim. -/
theorem packBack_holds : Rows.PackBackSaid := packBack.proved
end Go.Proofs.Ytjegkfdcelodeaa
