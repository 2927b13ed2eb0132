import Derived.Test.YtjegkfdcelodeaaAs0
import Derived.Test.YtjegkfdcelodeaaChecked
import Derived.WalkKit
import Derived.ProofKit
import Derived.OpenShut
import Derived.ShutString
import Derived.ChangeOld
import Derived.Below
import Derived.SizedLaws
import Derived.Carry
import Derived.Lib.SmallJoins
import Derived.Laws.IdiomArrays
namespace Go.Proofs.Ytjegkfdcelodeaa.P
open Go.ChangeShapes Go.WideShapes Go.ChangeAt Go.RowKit Go.Joins Go.Deep
open Go.ChangeMaps (open_string shut_string)
def pick4 {α : Type} (a b c d : α) (i : Nat) : α := match i with | 0 => a | 1 => b | 2 => c | _ => d
set_option maxRecDepth 100000 in
/-- A query by value, laid open. -/
theorem open_q {H : Type} {enc : TypeId × Value → H} {w : World} {base : Nat} {spare : Nat → Bool} {held : Bool} {r : Reach} {b0 : Nat} {v : Value} {d : DataW H} {p : List MemPlace} (hv : Value.okWide Try.prog w r b0 58 v) (h : DataW.Trod enc Try.prog w base spare held 58 v d p) :
    ∃ q : Qy, v = .agg q.cells ∧ (Lit.int .i64 q.a).wf = true ∧ (Lit.int .i64 q.b).wf = true ∧ ∀ i, i < 4 → (q.T i).size ≤ maxLen := by
  obtain ⟨cs, rfl, hsz⟩ := okWide_struct Try.underlying58 hv
  obtain ⟨l⟩ := cs
  have hC : Try.prog.cellsOf 58 = 14 := by kernel_rfl
  have c2 : Try.prog.cellsOf 2 = 1 := by kernel_rfl
  have c4 : Try.prog.cellsOf 4 = 1 := by kernel_rfl
  have c9 : Try.prog.cellsOf 9 = 1 := by kernel_rfl
  have c55 : Try.prog.cellsOf 55 = 4 := by kernel_rfl
  have c56 : Try.prog.cellsOf 56 = 4 := by kernel_rfl
  match l, hsz.trans hC with
  | [e0, e1, e2, e3, e4, e5, e6, e7, e8, e9, e10, e11, e12, e13], _ =>
    obtain ⟨fuel, hf⟩ := h
    obtain ⟨xs, n, _, hx, _, hlen, hg⟩ := DataW.trod_struct Try.underlying58 hf
    match xs, hlen with
    | [y0, y1, y2, y3, y4], _ =>
      have g0 := hg 0 _ rfl
      simp [Value.cells, c2] at g0
      obtain ⟨a, q0, _, w0⟩ := DataW.trod_int Try.underlying2 g0
      obtain rfl := (List.cons.inj q0).1
      have g1 := hg 1 _ rfl
      simp [Value.cells, c2] at g1
      obtain ⟨b, q1, _, w1⟩ := DataW.trod_int Try.underlying2 g1
      obtain rfl := (List.cons.inj q1).1
      have g2 := hg 2 _ rfl
      simp [Value.cells, c55] at g2
      obtain ⟨z0, z1, z2, z3, m2, _, k0, k1, k2, k3⟩ := trod_array4 Try.underlying55 c4 g2
      obtain ⟨A0, q20, _⟩ := DataW.trod_bool Try.underlying4 k0
      obtain rfl := (List.cons.inj q20).1
      obtain ⟨A1, q21, _⟩ := DataW.trod_bool Try.underlying4 k1
      obtain rfl := (List.cons.inj q21).1
      obtain ⟨A2, q22, _⟩ := DataW.trod_bool Try.underlying4 k2
      obtain rfl := (List.cons.inj q22).1
      obtain ⟨A3, q23, _⟩ := DataW.trod_bool Try.underlying4 k3
      obtain rfl := (List.cons.inj q23).1
      have g3 := hg 3 _ rfl
      simp [Value.cells, c55] at g3
      obtain ⟨z0, z1, z2, z3, m3, _, k0, k1, k2, k3⟩ := trod_array4 Try.underlying55 c4 g3
      obtain ⟨B0, q30, _⟩ := DataW.trod_bool Try.underlying4 k0
      obtain rfl := (List.cons.inj q30).1
      obtain ⟨B1, q31, _⟩ := DataW.trod_bool Try.underlying4 k1
      obtain rfl := (List.cons.inj q31).1
      obtain ⟨B2, q32, _⟩ := DataW.trod_bool Try.underlying4 k2
      obtain rfl := (List.cons.inj q32).1
      obtain ⟨B3, q33, _⟩ := DataW.trod_bool Try.underlying4 k3
      obtain rfl := (List.cons.inj q33).1
      have g4 := hg 4 _ rfl
      simp [Value.cells, c56] at g4
      obtain ⟨z0, z1, z2, z3, m4, _, k0, k1, k2, k3⟩ := trod_array4 Try.underlying56 c9 g4
      obtain ⟨C0, q40, _, w40⟩ := DataW.trod_string Try.underlying9 k0
      obtain rfl := (List.cons.inj q40).1
      obtain ⟨C1, q41, _, w41⟩ := DataW.trod_string Try.underlying9 k1
      obtain rfl := (List.cons.inj q41).1
      obtain ⟨C2, q42, _, w42⟩ := DataW.trod_string Try.underlying9 k2
      obtain rfl := (List.cons.inj q42).1
      obtain ⟨C3, q43, _, w43⟩ := DataW.trod_string Try.underlying9 k3
      obtain rfl := (List.cons.inj q43).1
      exact ⟨⟨a, b, pick4 A0 A1 A2 A3, pick4 B0 B1 B2 B3, pick4 C0 C1 C2 C3⟩, rfl, w0, w1, fun i hi => by
        rcases As.lt4 hi with rfl | rfl | rfl | rfl
        · exact w40
        · exact w41
        · exact w42
        · exact w43⟩
set_option maxRecDepth 100000 in
/-- A key by value, laid open. -/
theorem open_k {H : Type} {enc : TypeId × Value → H} {w : World} {base : Nat} {spare : Nat → Bool} {held : Bool} {r : Reach} {b0 : Nat} {v : Value} {d : DataW H} {p : List MemPlace} (hv : Value.okWide Try.prog w r b0 60 v) (h : DataW.Trod enc Try.prog w base spare held 60 v d p) :
    ∃ k : Ky, v = .agg k.cells ∧ (Lit.int .i64 k.h).wf = true ∧ ∀ i, i < 4 → (k.D i).size ≤ maxLen := by
  obtain ⟨cs, rfl, hsz⟩ := okWide_struct Try.underlying60 hv
  obtain ⟨l⟩ := cs
  have hC : Try.prog.cellsOf 60 = 5 := by kernel_rfl
  have c2 : Try.prog.cellsOf 2 = 1 := by kernel_rfl
  have c4 : Try.prog.cellsOf 4 = 1 := by kernel_rfl
  have c9 : Try.prog.cellsOf 9 = 1 := by kernel_rfl
  have c55 : Try.prog.cellsOf 55 = 4 := by kernel_rfl
  have c56 : Try.prog.cellsOf 56 = 4 := by kernel_rfl
  match l, hsz.trans hC with
  | [e0, e1, e2, e3, e4], _ =>
    obtain ⟨fuel, hf⟩ := h
    obtain ⟨xs, n, _, hx, _, hlen, hg⟩ := DataW.trod_struct Try.underlying60 hf
    match xs, hlen with
    | [y0, y1], _ =>
      have g0 := hg 0 _ rfl
      simp [Value.cells, c2] at g0
      obtain ⟨a, q0, _, w0⟩ := DataW.trod_int Try.underlying2 g0
      obtain rfl := (List.cons.inj q0).1
      have g1 := hg 1 _ rfl
      simp [Value.cells, c56] at g1
      obtain ⟨z0, z1, z2, z3, m1, _, k0, k1, k2, k3⟩ := trod_array4 Try.underlying56 c9 g1
      obtain ⟨C0, q10, _, w10⟩ := DataW.trod_string Try.underlying9 k0
      obtain rfl := (List.cons.inj q10).1
      obtain ⟨C1, q11, _, w11⟩ := DataW.trod_string Try.underlying9 k1
      obtain rfl := (List.cons.inj q11).1
      obtain ⟨C2, q12, _, w12⟩ := DataW.trod_string Try.underlying9 k2
      obtain rfl := (List.cons.inj q12).1
      obtain ⟨C3, q13, _, w13⟩ := DataW.trod_string Try.underlying9 k3
      obtain rfl := (List.cons.inj q13).1
      exact ⟨⟨a, pick4 C0 C1 C2 C3⟩, rfl, w0, fun i hi => by
        rcases As.lt4 hi with rfl | rfl | rfl | rfl
        · exact w10
        · exact w11
        · exact w12
        · exact w13⟩
end Go.Proofs.Ytjegkfdcelodeaa.P
