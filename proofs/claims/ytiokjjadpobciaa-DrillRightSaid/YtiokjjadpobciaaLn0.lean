import Derived.Test.YtiokjjadpobciaaProg
import Derived.Conc.LoneCalls
import Derived.Conc.LoneSelectN
import Derived.Below
import Derived.Deep.Draws
import Derived.Deep.AppendLies
import Derived.Maps.AppendAt
import Derived.OwnWalk
import Derived.Laws.BytesArg
import Derived.Laws.MakeOwn
import Derived.Laws.OwnMore
import Derived.Deep.OwnRows
import Derived.Tactics
import Derived.Lib.ConvBytes
import Derived.Laws.Slices
import Derived.WalkKit
import Derived.KernelRfl
import Derived.RowKit3
import Derived.Deep.LoopGhost
import Derived.Deep.QuietTactic
import Derived.BigQuiet
import Derived.WideLaws
import Derived.Deep.DeepCutAuto
import Derived.Deep.CutBlock
import Derived.Deep.RegionHeld3
import Derived.Laws.Rows
import Derived.Lib.AppendStr
import Derived.ArgAppend
import Derived.Laws.IdiomCopy
import Derived.OrdersHeld
import Derived.Laws.BitsLemmas
import Derived.RowKit
import Derived.OneCell
import Derived.Deep.WholeRow
import Derived.Test.YtiokjjadpobciaaWWords
import Derived.Test.YtiokjjadpobciaaWLast
import Derived.Test.YtiokjjadpobciaaWTab
import Derived.Test.YtiokjjadpobciaaWFour
import Derived.Test.YtiokjjadpobciaaWQPut
import Derived.Test.YtiokjjadpobciaaWApart
import Derived.Test.YtiokjjadpobciaaWArr
import Derived.Test.YtiokjjadpobciaaWZeros
import Derived.Test.YtiokjjadpobciaaWFoot
import Derived.Test.YtiokjjadpobciaaWKept
import Derived.Test.YtiokjjadpobciaaWShare
import Derived.Test.YtiokjjadpobciaaWN
import Derived.Test.YtiokjjadpobciaaWFootNe
import Derived.Test.YtiokjjadpobciaaWAt
import Derived.Test.YtiokjjadpobciaaWEqStruct
import Derived.Test.YtiokjjadpobciaaWRepsOne
import Derived.Test.YtiokjjadpobciaaWInv
import Derived.Test.YtiokjjadpobciaaWInvWords
import Derived.Test.YtiokjjadpobciaaWGuard
import Derived.Test.YtiokjjadpobciaaWNEv
import Derived.Test.YtiokjjadpobciaaWMore
import Derived.WalkSpells
namespace Go.Proofs.Ytiokjjadpobciaa.P
open Go.RowKit Go.Conc Go.Proofs.YtiokjjadpobciaaW.PrintWords Go.Proofs.YtiokjjadpobciaaW.PrintLast Go.Proofs.YtiokjjadpobciaaW.PrintMore
attribute [local go_sem] max2_int min2_int max_two min_two max_three min_three max_four min_four
set_option linter.unusedVariables false
set_option linter.unusedSimpArgs false
namespace Ln
/-- All blocks of before but those of S are as they were. -/
structure Far (w w' : World) (S : Nat → Prop) : Prop where
  os : w'.os = w.os
  tape : w'.tape = w.tape
  output : w'.output = w.output
  size : w.heap.size ≤ w'.heap.size
  block : ∀ k, k < w.heap.size → ¬ S k → w'.heap[k]? = w.heap[k]?
theorem Far.refl (w : World) (S : Nat → Prop) : Far w w S := ⟨rfl, rfl, rfl, Nat.le_refl _, fun _ _ _ => rfl⟩
theorem Far.trans {a b c : World} {S T : Nat → Prop} (h : Far a b S) (k : Far b c T) (hT : ∀ i, i < a.heap.size → T i → S i) : Far a c S :=
  ⟨k.os.trans h.os, k.tape.trans h.tape, k.output.trans h.output, Nat.le_trans h.size k.size, fun i hi hs => (k.block i (Nat.lt_of_lt_of_le hi h.size) (fun t => hs (hT i hi t))).trans (h.block i hi hs)⟩
theorem Far.below {w w' : World} (h : Below w.heap.size w w') (S : Nat → Prop) : Far w w' S := ⟨h.os, h.tape, h.output, h.size, fun k hk _ => h.block k hk⟩
theorem Far.blk {w w' : World} {S : Nat → Prop} (h : Far w w' S) {g : Nat} {o : Obj} (hb : w.heap[g]? = some o) (hs : ¬ S g) : w'.heap[g]? = some o := (h.block g (blk_lt hb) hs).trans hb
theorem Far.mono {w w' : World} {S T : Nat → Prop} (h : Far w w' S) (hT : ∀ i, i < w.heap.size → S i → T i) : Far w w' T := ⟨h.os, h.tape, h.output, h.size, fun k hk ht => h.block k hk (fun s => ht (hT k hk s))⟩
theorem Far.toBelow {w0 w w' : World} {S : Nat → Prop} {B : Nat} (hb : Below B w0 w) (h : Far w w' S) (hB : B ≤ w.heap.size) (hS : ∀ i, S i → B ≤ i) : Below B w0 w' :=
  hb.trans ⟨h.os, h.tape, h.output, h.size, fun k hk => h.block k (by omega) (fun s => by have := hS k s; omega)⟩
theorem Far.setChan {w w' : World} {S : Nat → Prop} (h : Far w w' S) {c : Nat} (hc : w.heap.size ≤ c ∨ S c) (cap : Nat) (buf : Array Value) (cl : Bool) (s r : Nat) (tm : Bool) : Far w (w'.setChan c cap buf cl s r tm) S :=
  ⟨h.os, h.tape, h.output, by simp [World.setChan]; exact h.size, fun k hk hs => by
    simp only [World.setChan]
    rw [Array.getElem?_setIfInBounds_ne (fun e => by subst e; rcases hc with hc | hc; omega; exact hs hc)]
    exact h.block k hk hs⟩
theorem setChan_other (w : World) (c c' cap : Nat) (buf : Array Value) (cl : Bool) (s r : Nat) (tm : Bool) (h : c ≠ c') : (w.setChan c cap buf cl s r tm).heap[c']? = w.heap[c']? := by
  simp [World.setChan, Array.getElem?_setIfInBounds_ne h]

/-- A call that has a contract, in a walk of one goroutine alone. -/
theorem LoneTo.calls {P : Program} {Q : Goroutine → World → Prop} {f : FuncId} {args : Array Value} {w : World} {R : Ending → World → Prop} {c : Frame} {cs : List Frame} (hc : Calls P f args w R)
    (hr : ∀ e w', R e w' → ∃ v, e = .returned v ∧ LoneTo P Q (G (c.finish v) cs) w') : LoneTo P Q (G (Frame.enter P f args .normal) (c :: cs)) w := by
  obtain ⟨e, w', fr, hR, hs, hf, hl⟩ := hc (c :: cs)
  obtain ⟨v, rfl, g2, w2, hs2, hq⟩ := hr e w' hR
  exact ⟨g2, w2, Steps.trans hs (Steps.head (step_leave_returned hl) hs2), hq⟩

/-- A channel: its room, and what lies in it. -/
def Ch (W : World) (c room : Nat) (q : List Int) : Prop := ∃ s r, W.heap[c]? = some (.chan room (q.map (Value.int .i64)).toArray false s r false)
def chan : Kd Nat := Kd.scalar (fun k => Value.chan (some k)) (fun _ => rfl)
/-- Lanes at g. -/
structure LnS (B g : Nat) (v : Value) (cs : List Nat) (room : Nat) (L : List (List Int)) (W : World) : Prop where
  blk : W.heap[g]? = some (.cells #[v] 71 (0, 0))
  row : Kd.R chan 72 W B (fun k => k ≠ g) v cs
  len : L.length = cs.length
  nd : cs.Nodup
  ch : ∀ i c, cs[i]? = some c → Ch W c room (L.getD i [])
  fit : ∀ q ∈ L, q.length ≤ room
  lo : ∀ c ∈ cs, B ≤ c
def LnP (B g room : Nat) (L : List (List Int)) (W : World) : Prop := ∃ v cs, LnS B g v cs room L W
theorem R_chan {α : Type} {d : Kd α} {e base : Nat} {ok : Nat → Prop} {v : Value} {xs : List α} {w : World} (h : d.R e w base ok v xs) {c cap0 : Nat} {buf0 : Array Value} {cl0 : Bool} {s0 r0 : Nat} {tm0 : Bool} (hc : w.heap[c]? = some (.chan cap0 buf0 cl0 s0 r0 tm0)) (cap : Nat) (buf : Array Value) (cl : Bool) (s r : Nat) (tm : Bool) : d.R e (w.setChan c cap buf cl s r tm) base ok v xs :=
  Kd.R_mono (Kd.R_step (Kd.R_bound h) (fun k hk _ => by
    obtain ⟨_, _, _, q, hq, cells, hcell⟩ := hk
    exact setChan_other w c k cap buf cl s r tm (fun e => by subst e; rw [hc] at hcell; simp at hcell))) (fun _ hk => hk.1)
theorem LnS.below {B g room : Nat} {v : Value} {cs : List Nat} {L : List (List Int)} {w w' : World} (h : LnS B g v cs room L w) (hb : Below w.heap.size w w') : LnS B g v cs room L w' :=
  ⟨blk_below h.blk hb, Kd.R_below h.row hb, h.len, h.nd, fun i c hi => by obtain ⟨s, r, hc⟩ := h.ch i c hi; exact ⟨s, r, blk_below hc hb⟩, h.fit, h.lo⟩
theorem LnP.below {B g room : Nat} {L : List (List Int)} {w w' : World} (h : LnP B g room L w) (hb : Below w.heap.size w w') : LnP B g room L w' := by
  obtain ⟨v, cs, h⟩ := h
  exact ⟨v, cs, h.below hb⟩
theorem LnS.cell {B g room : Nat} {v : Value} {cs : List Nat} {L : List (List Int)} {w : World} (h : LnS B g v cs room L w) : w.cell? ⟨g, 0, none⟩ = some v := blk_cell h.blk 0
theorem LnS.free {B g room : Nat} {v : Value} {cs : List Nat} {L : List (List Int)} {w : World} (h : LnS B g v cs room L w) : w.frozen? ⟨g, 0, none⟩ = false := blk_frozen h.blk 0
/-- A lane's channel is turned. -/
theorem LnS.turn {B g room : Nat} {v : Value} {cs : List Nat} {L : List (List Int)} {w : World} (h : LnS B g v cs room L w) {i c : Nat} (hi : cs[i]? = some c) (q : List Int) (hq : q.length ≤ room) (s r : Nat) : LnS B g v cs room (L.set i q) (w.setChan c room (q.map (Value.int .i64)).toArray false s r false) := by
  obtain ⟨s0, r0, hc⟩ := h.ch i c hi
  have hgc : c ≠ g := fun e => by subst e; rw [h.blk] at hc; simp at hc
  have hil : i < cs.length := (List.getElem?_eq_some_iff.1 hi).1
  refine ⟨(setChan_other _ _ _ _ _ _ _ _ _ hgc).trans h.blk, R_chan h.row hc _ _ _ _ _ _, by rw [List.length_set]; exact h.len, h.nd, fun j c' hj => ?_, fun p hp => ?_, h.lo⟩
  · by_cases hij : j = i
    · subst hij
      obtain rfl : c' = c := Option.some.inj (hj.symm.trans hi)
      refine ⟨s, r, ?_⟩
      rw [heap_setChan _ _ _ _ _ _ _ _ (blk_lt hc)]
      rw [List.getD_eq_getElem?_getD, List.getElem?_set_self (by rw [h.len]; exact hil)]
      rfl
    · obtain ⟨s1, r1, hc1⟩ := h.ch j c' hj
      have hne : c ≠ c' := fun e => hij (by
        subst e
        obtain ⟨l1, e1⟩ := List.getElem?_eq_some_iff.1 hj
        obtain ⟨l2, e2⟩ := List.getElem?_eq_some_iff.1 hi
        exact (List.getElem_inj h.nd).1 (e1.trans e2.symm))
      refine ⟨s1, r1, ?_⟩
      rw [setChan_other _ _ _ _ _ _ _ _ _ hne, hc1, List.getD_eq_getElem?_getD, List.getD_eq_getElem?_getD, List.getElem?_set_ne (Ne.symm hij)]
  · rcases List.mem_or_eq_of_mem_set hp with hp | hp
    · exact h.fit p hp
    · subst hp; exact hq
end Ln
end Go.Proofs.Ytiokjjadpobciaa.P
