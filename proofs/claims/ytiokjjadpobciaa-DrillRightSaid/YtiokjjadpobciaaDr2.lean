import Derived.Test.YtiokjjadpobciaaDr1
import Derived.Test.YtiokjjadpobciaaDd
namespace Go.Proofs.Ytiokjjadpobciaa.P
open Go.RowKit Go.Conc Go.Proofs.YtiokjjadpobciaaW.PrintWords Go.Proofs.YtiokjjadpobciaaW.PrintLast Go.Proofs.YtiokjjadpobciaaW.PrintMore
attribute [local go_sem] max2_int min2_int max_two min_two max_three min_three max_four min_four
set_option linter.unusedVariables false
set_option linter.unusedSimpArgs false
namespace Dr
open Ln
/-- Elements of plain cells. -/
def plainK {α : Type} (n : Nat) (f : α → List Value) (hl : ∀ x, (f x).length = n) (h1 : ∀ x, ∀ u ∈ f x, u.oneCell' = true) : Kd α where
  sz := n
  E := []
  K := fun _ x cs => cs = f x
  M := fun _ _ _ x cs => cs = f x
  K_len := fun h => by rw [h]; exact hl _
  K_one := fun h u hu => by rw [h] at hu; exact h1 _ u hu
  K_below := fun _ h => h
  K_of_M := fun h => h
  M_mono := fun _ h => h
  M_bound := fun h => h
  M_move := fun _ h => h
  M_lower := fun _ h => h
def Fa.list (f : Fa) : List Value := [.int .i64 f.h, .string f.a, .string f.b, .string { data := #[] }, .string { data := #[] }, .int .i64 f.v]
def factK : Kd Fa := plainK 6 Fa.list (fun _ => rfl) (fun x u hu => by simp [Fa.list] at hu; rcases hu with rfl | rfl | rfl | rfl | rfl <;> rfl)
/-- A step: its kind, its number, its facts, is it the query, its fails. -/
structure Sx where
  k : Int
  n : Int
  fs : List Fa
  q : Bool
  fl : List Bool
def headK : Kd (Int × Int) := plainK 2 (fun x => [.int .i64 x.1, .int .i64 x.2]) (fun _ => rfl) (fun x u hu => by simp at hu; rcases hu with rfl | rfl <;> rfl)
def midL (q : Bool) : List Value := [.int .i64 0, .int .i64 (if q then 16777217 else 0), .bool q, .bool false, .bool false, .bool false, .bool false, .bool false, .bool false, .bool false, .string { data := #[] }, .string { data := #[] }, .string { data := #[] }, .string { data := #[] }, .int .i64 0, .int .i64 0, .int .i64 0, .int .i64 0, .int .i64 0, .int .i64 0, .int .i64 0, .int .i64 0, .int .i64 0]
def midK : Kd Bool := plainK 23 midL (fun _ => rfl) (fun x u hu => by simp [midL] at hu; rcases hu with rfl | rfl | rfl | rfl | rfl | rfl <;> rfl)
def stepD : Kd Sx := Kd.iso (Kd.pair headK (Kd.pair (Kd.slice 88 factK) (Kd.pair midK (Kd.slice 4 Kd.bool)))) (fun x => ((x.k, x.n), (x.fs, (x.q, x.fl))))
theorem stepD_sz : stepD.sz = 27 := rfl
/-- A step's cells. -/
def stepC (x : Sx) (vf vl : Value) : List Value := [.int .i64 x.k, .int .i64 x.n] ++ ([vf] ++ (midL x.q ++ [vl]))
theorem stepD_M {W : World} {B : Nat} {ok : Nat → Prop} {x : Sx} {vf vl : Value} (hf : Kd.R factK 88 W B ok vf x.fs) (hl : Kd.R Kd.bool 4 W B ok vl x.fl) : stepD.M W B ok x (stepC x vf vl) :=
  ⟨_, _, rfl, rfl, _, _, rfl, ⟨vf, rfl, hf⟩, _, _, rfl, rfl, ⟨vl, rfl, hl⟩⟩
theorem stepD_K {W : World} {x : Sx} {cs : List Value} (h : stepD.K W x cs) : ∃ Af cf Al cl, cs = stepC x (.slice Af x.fs.length cf) (.slice Al x.fl.length cl) ∧ x.fs.length ≤ cf ∧ Kd.C factK W Af x.fs.length x.fs ∧ x.fl.length ≤ cl ∧ Kd.C Kd.bool W Al x.fl.length x.fl := by
  obtain ⟨c0, c1, rfl, h0, c2, c3, rfl, ⟨Af, cf, rfl, hcf, hf⟩, c4, c5, rfl, h4, ⟨Al, cl, rfl, hcl, hl⟩⟩ := h
  cases h0
  cases h4
  exact ⟨Af, cf, Al, cl, rfl, hcf, hf, hcl, hl⟩
/-- The drill at d, its dice at g. -/
structure DS (B g d : Nat) (x kind hour : Int) (v : Value) (xs : List Sx) (w0 W : World) : Prop where
  dice : DB g x W
  blk : W.heap[d]? = some (.cells #[.pointer (some ⟨g, 0, none⟩), .int .i64 kind, .int .i64 hour, v] 80 (0, 0))
  row : Kd.R stepD 66 W B (fun k => k ≠ g ∧ k ≠ d) v xs
  b : Below B w0 W
theorem DS.c0 {B g d : Nat} {x kind hour : Int} {v : Value} {xs : List Sx} {w0 W : World} (h : DS B g d x kind hour v xs w0 W) : W.cell? ⟨d, 0, none⟩ = some (.pointer (some ⟨g, 0, none⟩)) := blk_cell h.blk 0
theorem DS.c1 {B g d : Nat} {x kind hour : Int} {v : Value} {xs : List Sx} {w0 W : World} (h : DS B g d x kind hour v xs w0 W) : W.cell? ⟨d, 1, none⟩ = some (.int .i64 kind) := blk_cell h.blk 1
theorem DS.c2 {B g d : Nat} {x kind hour : Int} {v : Value} {xs : List Sx} {w0 W : World} (h : DS B g d x kind hour v xs w0 W) : W.cell? ⟨d, 2, none⟩ = some (.int .i64 hour) := blk_cell h.blk 2
theorem DS.c3 {B g d : Nat} {x kind hour : Int} {v : Value} {xs : List Sx} {w0 W : World} (h : DS B g d x kind hour v xs w0 W) : W.cell? ⟨d, 3, none⟩ = some v := blk_cell h.blk 3
theorem DS.fr {B g d : Nat} {x kind hour : Int} {v : Value} {xs : List Sx} {w0 W : World} (h : DS B g d x kind hour v xs w0 W) (i : Nat) : W.frozen? ⟨d, i, none⟩ = false := blk_frozen h.blk i
theorem DS.below {B g d : Nat} {x kind hour : Int} {v : Value} {xs : List Sx} {w0 w w' : World} (h : DS B g d x kind hour v xs w0 w) (hB : B ≤ d) (hb : Below w.heap.size w w') : DS B g d x kind hour v xs w0 w' :=
  ⟨h.dice.below hb, blk_below h.blk hb, Kd.R_below h.row hb, h.b.trans (hb.mono (by have := blk_lt h.blk; omega))⟩
theorem R_move' {α : Type} {d : Kd α} {e : Nat} {w w1 : World} {base : Nat} {ok : Nat → Prop} {v : Value} {xs : List α} (h : d.R e w base ok v xs) (hm : ∀ k, ok k → k < w.heap.size → w1.heap[k]? = w.heap[k]?) : d.R e w1 base ok v xs :=
  Kd.R_mono (Kd.R_move (Kd.R_bound h) (fun k hk => hm k hk.1 hk.2.2.1)) (fun k hk => hk.1)
/-- The hour turned. -/
theorem DS.hour {B g d : Nat} {x kind hour : Int} {v : Value} {xs : List Sx} {w0 w : World} (h : DS B g d x kind hour v xs w0 w) (hB : B ≤ d) (hg : g ≠ d) (y : Int) : DS B g d x kind y v xs w0 (w.setCell ⟨d, 2, none⟩ (.int .i64 y)) :=
  ⟨⟨blk_far h.dice.blk (p := ⟨d, 2, none⟩) (by simpa using hg) _⟩, blk_put h.blk 2 _ rfl, R_move' h.row (fun k hk _ => Below.heap_setCell _ ⟨d, 2, none⟩ _ k hk.2), h.b.setCell (p := ⟨d, 2, none⟩) hB _⟩
/-- The dice turned, and new blocks. -/
theorem DS.far {B g d : Nat} {x x' kind hour : Int} {v : Value} {xs : List Sx} {w0 w w' : World} (h : DS B g d x kind hour v xs w0 w) (hg : g ≠ d) (hd : DB g x' w') (hb : Below B w0 w') (hf : Far w w' (fun k => k = g)) : DS B g d x' kind hour v xs w0 w' :=
  ⟨hd, hf.blk h.blk (fun e => hg e.symm), R_move' h.row (fun k hk hlt => hf.block k hlt hk.1), hb⟩
theorem DS.next {B g d : Nat} {x kind hour : Int} {v : Value} {xs : List Sx} {w0 w : World} (h : DS B g d x kind hour v xs w0 w) (hB : B ≤ g) (hg : g ≠ d) (n : Int) (hn : 1 ≤ n) (hn2 : n < 9223372036854775808) :
    Calls Try.prog 33 #[.pointer (some ⟨g, 0, none⟩), .int .i64 n] w fun e w' => e = .returned (.int .i64 (thr x n)) ∧ DS B g d (nxt x) kind hour v xs w0 w' ∧ Far w w' (fun k => k = g) :=
  (Next.calls B g x n w0 w hn hn2 h.b hB h.dice).mono fun e w' k => ⟨k.1, h.far hg k.2.1 k.2.2.1 k.2.2.2, k.2.2.2⟩
set_option maxHeartbeats 8000000 in
set_option maxRecDepth 100000 in
theorem put.calls (B g d : Nat) (x kind hour : Int) (v : Value) (xs ys : List Sx) (A : Option Addr) (m c : Nat) (okp : Nat → Prop) (w0 w : World) (hB : B ≤ d) (hg : g ≠ d) (h : DS B g d x kind hour v xs w0 w) (hx : xs.length + m ≤ 100000)
    (hr : ReadsRow (stepD.M w B okp) 27 w A m ys) (hok : ∀ k, okp k → (k ≠ g ∧ k ≠ d) ∧ some k ≠ v.ownBlock) (hgw : g < w.heap.size) :
    Calls Try.prog 36 #[.pointer (some ⟨d, 0, none⟩), .slice A m c] w fun e w' => e = .returned (.tuple #[]) ∧ ∃ v', DS B g d x kind hour v' (xs ++ ys) w0 w' := by
  have H := Aside0.mk h
  have HR := Aside0.mk hr
  have HO := Aside0.mk hok
  have hdw := blk_lt h.blk
  clear h hr hok
  have c3 := H.out.c3
  go_enter Try.func36, Try.ntmps36
  go_wp2_with ((with_reducible refine gate_builtin (b := .append) (xs := #[.tmp 8, .tmp 9]) rfl ?_); at_builtin; refine Kd.R_append_rows stepD (w0 := w0) B rfl (.tmp 8) (.tmp 9) 23 66 (.agg (stepC ⟨0, 0, [], false, []⟩ (.slice none 0 0) (.slice none 0 0)).toArray) 224 rfl Try.underlying23 Dd.info66 rfl (by decide) (by omega) v xs ys A m c (fun k => k ≠ g ∧ k ≠ d) okp rfl rfl ?aO ?aR (fun _ _ h => h) ?aP ?aF ?aB ?aS ?aL ?_; (case aP => exact HO.out); (case aF => intro k hk; exact ⟨by omega, by omega⟩); (case aO => exact H.out.row); (case aR => exact HR.out); (case aB => exact H.out.b); (case aS => have := H.out.b.size; omega); (case aL => omega); intro v1 w1 ho hb hgr hat; obtain ⟨A1, c1, rfl⟩ := Kd.R_slice ho; have HR1 := Aside0.mk ho; have HB1 := Aside0.mk hb; have HG1 := Aside0.mk hgr; have hbk := blk_grown H.out.blk hgr (fun e => (H.out.row.1 d e.symm).2 rfl); have HK1 := Aside0.mk hbk; have k3 := blk_cell hbk 3; have f3 := blk_frozen hbk 3; clear ho hb hgr hat hbk)
  rw [List.length_append] at HR1
  go_end0
  refine ⟨rfl, _, ⟨⟨blk_far (blk_grown H.out.dice.blk HG1.out (fun e => (H.out.row.1 g e.symm).1 rfl)) (p := ⟨d, 3, none⟩) (by simpa using hg) _⟩, blk_put HK1.out 3 _ rfl, R_move' HR1.out (fun k hk _ => Below.heap_setCell _ ⟨d, 3, none⟩ _ k hk.2), HB1.out.setCell (p := ⟨d, 3, none⟩) hB _⟩⟩
end Dr
end Go.Proofs.Ytiokjjadpobciaa.P
