import Derived.Test.YtjegkfdcelodeaaAs2
import Derived.Test.YtjegkfdcelodeaaRx
namespace Go.Proofs.Ytjegkfdcelodeaa.P
open Go.RowKit Go.Proofs.YtjegkfdcelodeaaW.PrintWords Go.Proofs.YtjegkfdcelodeaaW.PrintLast Go.Proofs.YtjegkfdcelodeaaW.PrintMore
attribute [local go_sem] max2_int min2_int max_two min_two max_three min_three max_four min_four
set_option linter.unusedVariables false
set_option linter.unusedSimpArgs false
namespace As
open Wr
section
variable {P : Program} {ops : Array Oper} {Q : Exit → Act → World → Prop}
/-- A call of a function value with one thing bound. -/
theorem goesV_ {oi : Oper} {N : Option Tmp} {a : Act} {w : World} {K : Act → World → Prop} {t : Tmp} {x : Value} {f : FuncId} {fn : Func} (hf : P.funcs[f]? = some fn) (hname : (fn.name == "runtime.NumGoroutine") = false) (hb : fn.body.isSome = true)
    (hw : Region.wanted oi (yielded ops a.tmps) = true) (hN : oi.dst = N) (hop : oi.op = .call { callee := .value (.tmp t), args := #[], argTypes := #[] }) (hv : a.eval (.tmp t) = .func (.func f) #[x] #[])
    (h : Calls P f #[x] w fun e w' => ∃ v, e = .returned v ∧ K (a.put N v) w') : if Region.wanted oi (yielded ops a.tmps) = true then Oper.wp P oi a w K Q else K (a.put N undef) w := by
  refine call_ f #[x] hw hN ?_ h
  have he := enters_ hf hname hb #[x] w
  unfold execOp
  simp [hop, resolve, Deferred.ofValue, invoke, hv, he]
end
/-- A function, turned at one index. -/
def up {α : Type} (f : Nat → α) (i : Nat) (x : α) : Nat → α := fun j => if j = i then x else f j
def Qy.setG (q : Qy) (i : Nat) (x : Bool) : Qy := ⟨q.a, q.b, up q.G i x, q.H, q.T⟩
def Qy.setH (q : Qy) (i : Nat) (x : Bool) : Qy := ⟨q.a, q.b, q.G, up q.H i x, q.T⟩
def Qy.setT (q : Qy) (i : Nat) (x : ByteArray) : Qy := ⟨q.a, q.b, q.G, q.H, up q.T i x⟩
theorem QB.fr {p : Nat} {q : Qy} {W : World} (h : QB p q W) (i : Nat) : W.frozen? ⟨p, i, none⟩ = false := blk_frozen h.blk i
theorem QB.putG {p : Nat} {q : Qy} {W : World} (h : QB p q W) {i : Nat} (hi : i < 4) (x : Bool) : QB p (Qy.setG q i x) (W.setCell ⟨p, 2 + i, none⟩ (.bool x)) := by
  refine ⟨?_⟩
  rw [blk_set h.blk]
  rcases lt4 hi with rfl | rfl | rfl | rfl <;> simp [Qy.cells, Qy.setG, up]
theorem QB.putH {p : Nat} {q : Qy} {W : World} (h : QB p q W) {i : Nat} (hi : i < 4) (x : Bool) : QB p (Qy.setH q i x) (W.setCell ⟨p, 6 + i, none⟩ (.bool x)) := by
  refine ⟨?_⟩
  rw [blk_set h.blk]
  rcases lt4 hi with rfl | rfl | rfl | rfl <;> simp [Qy.cells, Qy.setH, up]
theorem QB.putT {p : Nat} {q : Qy} {W : World} (h : QB p q W) {i : Nat} (hi : i < 4) (x : ByteArray) : QB p (Qy.setT q i x) (W.setCell ⟨p, 10 + i, none⟩ (.string x)) := by
  refine ⟨?_⟩
  rw [blk_set h.blk]
  rcases lt4 hi with rfl | rfl | rfl | rfl <;> simp [Qy.cells, Qy.setT, up]
theorem QB.putA {p : Nat} {q : Qy} {W : World} (h : QB p q W) (x : Int) : QB p ⟨x, q.b, q.G, q.H, q.T⟩ (W.setCell ⟨p, 0, none⟩ (.int .i64 x)) := ⟨blk_put h.blk 0 _ rfl⟩
theorem QB.putB {p : Nat} {q : Qy} {W : World} (h : QB p q W) (x : Int) : QB p ⟨q.a, x, q.G, q.H, q.T⟩ (W.setCell ⟨p, 1, none⟩ (.int .i64 x)) := ⟨blk_put h.blk 1 _ rfl⟩
theorem QB.eq {p : Nat} {q q' : Qy} {W : World} (h : QB p q W) (e : q.cells = q'.cells) : QB p q' W := ⟨by rw [← e]; exact h.blk⟩
theorem QB.all {p : Nat} {q : Qy} {W : World} (h : QB p q W) : W.cell? ⟨p, 0, none⟩ = some (.int .i64 q.a) ∧ W.cell? ⟨p, 1, none⟩ = some (.int .i64 q.b) ∧ W.cell? ⟨p, 2, none⟩ = some (.bool (q.G 0)) ∧ W.cell? ⟨p, 3, none⟩ = some (.bool (q.G 1)) ∧ W.cell? ⟨p, 4, none⟩ = some (.bool (q.G 2)) ∧ W.cell? ⟨p, 5, none⟩ = some (.bool (q.G 3)) ∧ W.cell? ⟨p, 6, none⟩ = some (.bool (q.H 0)) ∧ W.cell? ⟨p, 7, none⟩ = some (.bool (q.H 1)) ∧ W.cell? ⟨p, 8, none⟩ = some (.bool (q.H 2)) ∧ W.cell? ⟨p, 9, none⟩ = some (.bool (q.H 3)) ∧ W.cell? ⟨p, 10, none⟩ = some (.string (q.T 0)) ∧ W.cell? ⟨p, 11, none⟩ = some (.string (q.T 1)) ∧ W.cell? ⟨p, 12, none⟩ = some (.string (q.T 2)) ∧ W.cell? ⟨p, 13, none⟩ = some (.string (q.T 3)) :=
  ⟨blk_cell h.blk 0, blk_cell h.blk 1, blk_cell h.blk 2, blk_cell h.blk 3, blk_cell h.blk 4, blk_cell h.blk 5, blk_cell h.blk 6, blk_cell h.blk 7, blk_cell h.blk 8, blk_cell h.blk 9, blk_cell h.blk 10, blk_cell h.blk 11, blk_cell h.blk 12, blk_cell h.blk 13⟩
/-- A query is no row of bytes. -/
theorem QB.noRow {p : Nat} {q : Qy} {W : World} (h : QB p q W) {A : Option Addr} {l : List Int} (hC : Kd.C (Kd.int .u8) W A l.length l) : ∀ ad, A = some ad → 0 < l.length → ad.block ≠ p := by
  intro ad e hp hb
  subst e
  obtain ⟨ad', he, hcell⟩ := Kd.at_int hC 0 (by omega) (by omega)
  obtain rfl := Option.some.inj he
  have hblk := h.blk
  obtain ⟨b, o, sp⟩ := ad
  simp only at hb
  subst hb
  simp only [World.cell?] at hcell
  have e0 : ((⟨b, o, sp⟩ : Addr).add (0 : Int).toNat) = ⟨b, o, sp⟩ := by unfold Addr.add; split <;> simp_all
  rw [e0, hblk] at hcell
  simp only at hcell
  unfold Qy.cells at hcell
  split at hcell
  · exact absurd hcell (by simp)
  · rcases o with _ | _ | _ | _ | _ | _ | _ | _ | _ | _ | _ | _ | _ | _ | o <;> simp at hcell
theorem QB.reader {p g : Nat} {q : Qy} {l : List Int} {f : Int} {W : World} (h : QB p q W) (hR : RdP g l f W) (hp : p ≠ g) (j : Nat) (u : Value) : RdP g l f (W.setCell ⟨p, j, none⟩ u) := by
  obtain ⟨A, c, hS⟩ := hR
  refine ⟨A, c, ?_, hS.cap, C_set hS.row (h.noRow hS.row) j u, hS.under⟩
  rw [Below.heap_setCell W ⟨p, j, none⟩ u g (fun e => hp e.symm)]
  exact hS.blk
structure K14 (p B : Nat) (w0 : World) (cs : Array Value) (w : World) : Prop where
  heap : w.heap[p]? = some (.cells cs 58 (0, 0))
  below : Below B w0 w
theorem K14.step {p B : Nat} {w0 w : World} {cs cs' : Array Value} (h : K14 p B w0 cs w) (hB : B ≤ p) (i : Nat) (u : Value) (e : cs.setIfInBounds i u = cs') : K14 p B w0 cs' (w.setCell ⟨p, i, none⟩ u) :=
  ⟨blk_put h.heap i u e, h.below.setCell hB u⟩
theorem fin14 {p B : Nat} {w0 w : World} {a0 a1 a2 a3 a4 a5 a6 a7 a8 a9 a10 a11 a12 a13 : Value} (k : Qy) (hk : w.heap[p]? = some (.cells #[a0, a1, a2, a3, a4, a5, a6, a7, a8, a9, a10, a11, a12, a13] 58 (0, 0))) (hb : Below B w0 w) (hB : B ≤ p) :
    K14 p B w0 k.cells ((((((((((((((w.setCell ⟨p, 0, none⟩ (.int .i64 k.a)).setCell ⟨p, 1, none⟩ (.int .i64 k.b)).setCell ⟨p, 2, none⟩ (.bool (k.G 0))).setCell ⟨p, 3, none⟩ (.bool (k.G 1))).setCell ⟨p, 4, none⟩ (.bool (k.G 2))).setCell ⟨p, 5, none⟩ (.bool (k.G 3))).setCell ⟨p, 6, none⟩ (.bool (k.H 0))).setCell ⟨p, 7, none⟩ (.bool (k.H 1))).setCell ⟨p, 8, none⟩ (.bool (k.H 2))).setCell ⟨p, 9, none⟩ (.bool (k.H 3))).setCell ⟨p, 10, none⟩ (.string (k.T 0))).setCell ⟨p, 11, none⟩ (.string (k.T 1))).setCell ⟨p, 12, none⟩ (.string (k.T 2))).setCell ⟨p, 13, none⟩ (.string (k.T 3))) := by
  have s0 : K14 p B w0 _ w := ⟨hk, hb⟩
  have s1 := s0.step hB 0 (.int .i64 k.a) (cs' := #[.int .i64 k.a, a1, a2, a3, a4, a5, a6, a7, a8, a9, a10, a11, a12, a13]) rfl
  have s2 := s1.step hB 1 (.int .i64 k.b) (cs' := #[.int .i64 k.a, .int .i64 k.b, a2, a3, a4, a5, a6, a7, a8, a9, a10, a11, a12, a13]) rfl
  have s3 := s2.step hB 2 (.bool (k.G 0)) (cs' := #[.int .i64 k.a, .int .i64 k.b, .bool (k.G 0), a3, a4, a5, a6, a7, a8, a9, a10, a11, a12, a13]) rfl
  have s4 := s3.step hB 3 (.bool (k.G 1)) (cs' := #[.int .i64 k.a, .int .i64 k.b, .bool (k.G 0), .bool (k.G 1), a4, a5, a6, a7, a8, a9, a10, a11, a12, a13]) rfl
  have s5 := s4.step hB 4 (.bool (k.G 2)) (cs' := #[.int .i64 k.a, .int .i64 k.b, .bool (k.G 0), .bool (k.G 1), .bool (k.G 2), a5, a6, a7, a8, a9, a10, a11, a12, a13]) rfl
  have s6 := s5.step hB 5 (.bool (k.G 3)) (cs' := #[.int .i64 k.a, .int .i64 k.b, .bool (k.G 0), .bool (k.G 1), .bool (k.G 2), .bool (k.G 3), a6, a7, a8, a9, a10, a11, a12, a13]) rfl
  have s7 := s6.step hB 6 (.bool (k.H 0)) (cs' := #[.int .i64 k.a, .int .i64 k.b, .bool (k.G 0), .bool (k.G 1), .bool (k.G 2), .bool (k.G 3), .bool (k.H 0), a7, a8, a9, a10, a11, a12, a13]) rfl
  have s8 := s7.step hB 7 (.bool (k.H 1)) (cs' := #[.int .i64 k.a, .int .i64 k.b, .bool (k.G 0), .bool (k.G 1), .bool (k.G 2), .bool (k.G 3), .bool (k.H 0), .bool (k.H 1), a8, a9, a10, a11, a12, a13]) rfl
  have s9 := s8.step hB 8 (.bool (k.H 2)) (cs' := #[.int .i64 k.a, .int .i64 k.b, .bool (k.G 0), .bool (k.G 1), .bool (k.G 2), .bool (k.G 3), .bool (k.H 0), .bool (k.H 1), .bool (k.H 2), a9, a10, a11, a12, a13]) rfl
  have s10 := s9.step hB 9 (.bool (k.H 3)) (cs' := #[.int .i64 k.a, .int .i64 k.b, .bool (k.G 0), .bool (k.G 1), .bool (k.G 2), .bool (k.G 3), .bool (k.H 0), .bool (k.H 1), .bool (k.H 2), .bool (k.H 3), a10, a11, a12, a13]) rfl
  have s11 := s10.step hB 10 (.string (k.T 0)) (cs' := #[.int .i64 k.a, .int .i64 k.b, .bool (k.G 0), .bool (k.G 1), .bool (k.G 2), .bool (k.G 3), .bool (k.H 0), .bool (k.H 1), .bool (k.H 2), .bool (k.H 3), .string (k.T 0), a11, a12, a13]) rfl
  have s12 := s11.step hB 11 (.string (k.T 1)) (cs' := #[.int .i64 k.a, .int .i64 k.b, .bool (k.G 0), .bool (k.G 1), .bool (k.G 2), .bool (k.G 3), .bool (k.H 0), .bool (k.H 1), .bool (k.H 2), .bool (k.H 3), .string (k.T 0), .string (k.T 1), a12, a13]) rfl
  have s13 := s12.step hB 12 (.string (k.T 2)) (cs' := #[.int .i64 k.a, .int .i64 k.b, .bool (k.G 0), .bool (k.G 1), .bool (k.G 2), .bool (k.G 3), .bool (k.H 0), .bool (k.H 1), .bool (k.H 2), .bool (k.H 3), .string (k.T 0), .string (k.T 1), .string (k.T 2), a13]) rfl
  exact s13.step hB 13 (.string (k.T 3)) (cs' := k.cells) rfl
/-- The reading of a query. -/
def zQ : Qy := ⟨0, 0, fun _ => false, fun _ => false, fun _ => { data := #[] }⟩
def dG (s : List Int × Int) : Bool × List Int × Int := boolS s
def dH (s : List Int × Int) : Bool × List Int × Int := boolS (dG s).2
def dT (s : List Int × Int) : ByteArray × List Int × Int := if (dH s).1 = true then textS 16 (dH s).2 else ({ data := #[] }, (dH s).2)
def dS (s : List Int × Int) : Nat → List Int × Int
  | 0 => s
  | i + 1 => (dT (dS s i)).2
def qR (s : List Int × Int) (a b : Int) (i : Nat) : Qy := ⟨a, b, fun j => decide (j < i) && (dG (dS s j)).1, fun j => decide (j < i) && (dH (dS s j)).1, fun j => if j < i then (dT (dS s j)).1 else { data := #[] }⟩
theorem qR0 (s : List Int × Int) (a b : Int) : (qR s a b 0).cells = (⟨a, b, fun _ => false, fun _ => false, fun _ => { data := #[] }⟩ : Qy).cells := by simp [Qy.cells, qR]
theorem qR_step_no (s : List Int × Int) (a b : Int) {i : Nat} (hi : i < 4) (hH : (dH (dS s i)).1 = false) : (Qy.setH (Qy.setG (qR s a b i) i (dG (dS s i)).1) i false).cells = (qR s a b (i + 1)).cells := by
  have hT : (dT (dS s i)).1 = { data := #[] } := by unfold dT; rw [hH]; rfl
  rcases lt4 hi with rfl | rfl | rfl | rfl <;> simp [Qy.cells, qR, Qy.setG, Qy.setH, up, hH, hT]
theorem qR_step (s : List Int × Int) (a b : Int) {i : Nat} (hi : i < 4) (hH : (dH (dS s i)).1 = true) : (Qy.setT (Qy.setH (Qy.setG (qR s a b i) i (dG (dS s i)).1) i true) i (textS 16 (dH (dS s i)).2).1).cells = (qR s a b (i + 1)).cells := by
  have hT : (dT (dS s i)).1 = (textS 16 (dH (dS s i)).2).1 := by unfold dT; rw [hH]; rfl
  rcases lt4 hi with rfl | rfl | rfl | rfl <;> simp [Qy.cells, qR, Qy.setG, Qy.setH, Qy.setT, up, hH, hT]
theorem dS_no (s : List Int × Int) (i : Nat) (hH : (dH (dS s i)).1 = false) : dS s (i + 1) = (dH (dS s i)).2 := by
  show (dT (dS s i)).2 = _
  unfold dT; rw [hH]; rfl
theorem dS_yes (s : List Int × Int) (i : Nat) (hH : (dH (dS s i)).1 = true) : dS s (i + 1) = (textS 16 (dH (dS s i)).2).2 := by
  show (dT (dS s i)).2 = _
  unfold dT; rw [hH]; rfl
theorem takeS_sub (n : Int) (s : List Int × Int) : ∀ x ∈ (takeS n s).2.1, x ∈ s.1 := by
  intro x hx
  unfold takeS at hx
  split at hx
  · exact List.mem_of_mem_drop hx
  · exact hx
theorem boolS_sub (s : List Int × Int) : ∀ x ∈ (boolS s).2.1, x ∈ s.1 := by
  intro x hx
  unfold boolS at hx
  split at hx
  · exact takeS_sub 1 s x hx
  · simp only at hx
    split at hx
    · exact takeS_sub 1 s x hx
    · exact takeS_sub 1 s x hx
theorem textS_sub (lim : Int) (s : List Int × Int) : ∀ x ∈ (textS lim s).2.1, x ∈ s.1 := by
  intro x hx
  have h2 := takeS_sub _ _ x hx
  unfold withinS at h2
  split at h2
  · exact numS_sub s x h2
  · exact numS_sub s x h2
def bytesP (s : List Int × Int) : Prop := ∀ x ∈ s.1, 0 ≤ x ∧ x < 256
theorem bytes_num {s : List Int × Int} (h : bytesP s) : bytesP (numS s).2 := fun x hx => h x (numS_sub s x hx)
theorem bytes_G {s : List Int × Int} (h : bytesP s) : bytesP (dG s).2 := fun x hx => h x (boolS_sub s x hx)
theorem bytes_H {s : List Int × Int} (h : bytesP s) : bytesP (dH s).2 := fun x hx => bytes_G h x (boolS_sub (dG s).2 x hx)
theorem bytes_T {s : List Int × Int} (h : bytesP s) : bytesP (dT s).2 := by
  unfold dT
  split
  · exact fun x hx => bytes_H h x (textS_sub 16 _ x hx)
  · exact bytes_H h
theorem bytes_S {s : List Int × Int} (h : bytesP s) : ∀ i, bytesP (dS s i)
  | 0 => h
  | i + 1 => bytes_T (bytes_S h i)
def endV (a b : Int) (t : List Int × Int) (q : Qy) (dims : Int) : Qy × Int :=
  if t.2 ≠ 0 then (zQ, t.2) else if 0 < t.1.length then (zQ, 4) else if 4611686018427387904 < a ∨ 4611686018427387904 < b then (zQ, 2) else if chkQ q dims ≠ 0 then (zQ, chkQ q dims) else (q, 0)
def readV (l : List Int) (dims : Int) : Qy × Int :=
  if dims < 1 ∨ 4 < dims then (zQ, 1) else endV (numS (l, 0)).1 (numS (numS (l, 0)).2).1 (dS (numS (numS (l, 0)).2).2 dims.toNat) (qR (numS (numS (l, 0)).2).2 (numS (l, 0)).1 (numS (numS (l, 0)).2).1 dims.toNat) dims
end As
end Go.Proofs.Ytjegkfdcelodeaa.P
