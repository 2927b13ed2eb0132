import Derived.Test.YtjegkfdcelodeaaProg
import Derived.Below
import Derived.Deep.Draws
import Derived.Deep.AppendLies
import Derived.Maps.AppendAt
import Derived.OwnWalk
import Derived.Laws.BytesArg
import Derived.Laws.MakeOwn
import Derived.Laws.OwnMore
import Derived.Deep.OwnRows
import Derived.Tactics
import Derived.Lib.ConvBytes
import Derived.Laws.Slices
import Derived.WalkKit
import Derived.KernelRfl
import Derived.RowKit3
import Derived.Deep.LoopGhost
import Derived.Deep.QuietTactic
import Derived.BigQuiet
import Derived.WideLaws
import Derived.Deep.DeepCutAuto
import Derived.Deep.CutBlock
import Derived.Deep.RegionHeld3
import Derived.Laws.Rows
import Derived.Lib.AppendStr
import Derived.ArgAppend
import Derived.Laws.IdiomCopy
import Derived.OrdersHeld
import Derived.Laws.BitsLemmas
import Derived.RowKit
import Derived.OneCell
import Derived.Lib.SlBytesConst
import Derived.Lib.ConvBytes
import Derived.Deep.WholeRow
import Derived.Test.YtjegkfdcelodeaaWWords
import Derived.Test.YtjegkfdcelodeaaWLast
import Derived.Test.YtjegkfdcelodeaaWTab
import Derived.Test.YtjegkfdcelodeaaWFour
import Derived.Test.YtjegkfdcelodeaaWQPut
import Derived.Test.YtjegkfdcelodeaaWApart
import Derived.Test.YtjegkfdcelodeaaWArr
import Derived.Test.YtjegkfdcelodeaaWZeros
import Derived.Test.YtjegkfdcelodeaaWFoot
import Derived.Test.YtjegkfdcelodeaaWKept
import Derived.Test.YtjegkfdcelodeaaWShare
import Derived.Test.YtjegkfdcelodeaaWN
import Derived.Test.YtjegkfdcelodeaaWFootNe
import Derived.Test.YtjegkfdcelodeaaWAt
import Derived.Test.YtjegkfdcelodeaaWEqStruct
import Derived.Test.YtjegkfdcelodeaaWRepsOne
import Derived.Test.YtjegkfdcelodeaaWInv
import Derived.Test.YtjegkfdcelodeaaWInvWords
import Derived.Test.YtjegkfdcelodeaaWGuard
import Derived.Test.YtjegkfdcelodeaaWNEv
import Derived.Test.YtjegkfdcelodeaaWMore
import Derived.WalkSpells
namespace Go.Proofs.Ytjegkfdcelodeaa.P
open Go.RowKit Go.Proofs.YtjegkfdcelodeaaW.PrintWords Go.Proofs.YtjegkfdcelodeaaW.PrintLast Go.Proofs.YtjegkfdcelodeaaW.PrintMore
attribute [local go_sem] max2_int min2_int max_two min_two max_three min_three max_four min_four
set_option linter.unusedVariables false
set_option linter.unusedSimpArgs false
namespace Wr
theorem info5 : (Try.prog.info? 5).map (fun i => (i.zero, i.size, i.bytes)) = some (some (.int .u8 0), 1, 1) := by kernel_rfl
/-- All blocks of before but those of S are as they were. -/
structure Far (w w' : World) (S : Nat → Prop) : Prop where
  os : w'.os = w.os
  tape : w'.tape = w.tape
  output : w'.output = w.output
  size : w.heap.size ≤ w'.heap.size
  block : ∀ k, k < w.heap.size → ¬ S k → w'.heap[k]? = w.heap[k]?
theorem Far.refl (w : World) (S : Nat → Prop) : Far w w S := ⟨rfl, rfl, rfl, Nat.le_refl _, fun _ _ _ => rfl⟩
theorem Far.trans {a b c : World} {S T : Nat → Prop} (h : Far a b S) (k : Far b c T) (hT : ∀ i, i < a.heap.size → T i → S i) : Far a c S :=
  ⟨k.os.trans h.os, k.tape.trans h.tape, k.output.trans h.output, Nat.le_trans h.size k.size, fun i hi hs => (k.block i (Nat.lt_of_lt_of_le hi h.size) (fun t => hs (hT i hi t))).trans (h.block i hi hs)⟩
theorem Far.below {w w' : World} (h : Below w.heap.size w w') (S : Nat → Prop) : Far w w' S := ⟨h.os, h.tape, h.output, h.size, fun k hk _ => h.block k hk⟩
theorem Far.alloc {w w' : World} {S : Nat → Prop} (h : Far w w' S) (o : Obj) : Far w (w'.alloc o) S :=
  ⟨h.os, h.tape, h.output, by simp; have := h.size; omega, fun k hk hs => (Below.heap_alloc w' o k (Nat.lt_of_lt_of_le hk h.size)).trans (h.block k hk hs)⟩
theorem Far.drewN {w w' : World} {S : Nat → Prop} (h : Far w w' S) (n : Nat) : Far w (w'.drewN n) S := ⟨h.os, h.tape, h.output, h.size, h.block⟩
theorem Far.setCell {w w' : World} {S : Nat → Prop} (h : Far w w' S) {p : Addr} (hp : w.heap.size ≤ p.block ∨ S p.block) (u : Value) : Far w (w'.setCell p u) S :=
  ⟨h.os, h.tape, h.output, by simp [World.setCell]; exact h.size, fun k hk hs => (Below.heap_setCell w' p u k (fun e => by subst e; rcases hp with hp | hp; omega; exact hs hp)).trans (h.block k hk hs)⟩
theorem Far.grown {w a b : World} {S : Nat → Prop} {row : Option Nat} (h : Far w a S) (hg : a.grownBy b row) (hr : ∀ k, row = some k → w.heap.size ≤ k ∨ S k) : Far w b S :=
  ⟨hg.os.trans h.os, hg.tape.trans h.tape, hg.output.trans h.output, Nat.le_trans h.size hg.size, fun k hk hs => (hg.block k (Nat.lt_of_lt_of_le hk h.size) (fun e => by rcases hr k e.symm with x | x; omega; exact hs x)).trans (h.block k hk hs)⟩
/-- What lies in a block that is none of S stays. -/
theorem Far.blk {w w' : World} {S : Nat → Prop} (h : Far w w' S) {g : Nat} {o : Obj} (hb : w.heap[g]? = some o) (hs : ¬ S g) : w'.heap[g]? = some o := (h.block g (blk_lt hb) hs).trans hb
theorem Far.mono {w w' : World} {S T : Nat → Prop} (h : Far w w' S) (hT : ∀ i, i < w.heap.size → S i → T i) : Far w w' T := ⟨h.os, h.tape, h.output, h.size, fun k hk ht => h.block k hk (fun s => ht (hT k hk s))⟩
theorem Far.toBelow {w0 w w' : World} {S : Nat → Prop} {B : Nat} (hb : Below B w0 w) (h : Far w w' S) (hB : B ≤ w.heap.size) (hS : ∀ i, S i → B ≤ i) : Below B w0 w' :=
  hb.trans ⟨h.os, h.tape, h.output, h.size, fun k hk => h.block k (by omega) (fun s => by have := hS k s; omega)⟩

/-- A writer at g: its field, and the bytes that it holds. -/
structure WrS (B g : Nat) (v : Value) (l : List Int) (W : World) : Prop where
  blk : W.heap[g]? = some (.cells #[v] 40 (0, 0))
  row : Kd.R (Kd.int .u8) 5 W B (fun k => k ≠ g) v l
theorem WrS.cell {B g : Nat} {v : Value} {l : List Int} {W : World} (h : WrS B g v l W) : W.cell? ⟨g, 0, none⟩ = some v := blk_cell h.blk 0
theorem WrS.free {B g : Nat} {v : Value} {l : List Int} {W : World} (h : WrS B g v l W) : W.frozen? ⟨g, 0, none⟩ = false := blk_frozen h.blk 0

/-- The bytes of a number. -/
def numB (n : Int) : List Int := if n < 128 then [n] else (n % 128 + 128) :: numB (n / 128)
termination_by n.toNat
decreasing_by omega
theorem numB_len (n : Int) (k : Nat) (h : n < 128 ^ k) (hk : 0 < k) : (numB n).length ≤ k := by
  induction k generalizing n with
  | zero => omega
  | succ k ih =>
    rw [numB]
    split
    · simp
    · rename_i c
      have hk' : 0 < k := by
        rcases Nat.eq_zero_or_pos k with e | e
        · subst e; simp at h; omega
        · exact e
      have := ih (n / 128) (by rw [Int.pow_succ] at h; omega) hk'
      simp; omega
theorem or128 (n : Int) (h0 : 0 ≤ n) : Go.bits .or .u8 (n % 256) 128 = n % 128 + 128 := by
  have key : ∀ m : Fin 256, Go.bits .or .u8 (m.val : Int) 128 = (m.val : Int) % 128 + 128 := by decide +kernel
  have h := key ⟨(n % 256).toNat, by omega⟩
  have e : (((n % 256).toNat : Nat) : Int) = n % 256 := by omega
  simp only [e] at h
  rw [h]; omega
theorem Wr_step {B g : Nat} {v v1 v2 : Value} {l1 l2 : List Int} {w0 w wr w2 : World} (hg : B ≤ g) (HS : Aside0 (g < wr.heap.size)) (HW : Aside0 (WrS B g v1 l1 wr)) (HF : Aside0 (Far w wr (fun k => k = g ∨ some k = v.ownBlock)))
    (HV : Aside0 (v1.ownBlock = v.ownBlock ∨ ∃ b, v1.ownBlock = some b ∧ w.heap.size ≤ b)) (HO : Aside0 (Kd.R (Kd.int .u8) 5 w2 B (fun k => k ≠ g) v2 l2)) (HB2 : Aside0 (Below B w0 w2)) (HG : Aside0 (wr.grownBy w2 v1.ownBlock)) (HA : Aside0 (v2.ownBlock = v1.ownBlock ∨ ∃ b, v2.ownBlock = some b ∧ wr.heap.size ≤ b)) :
    Aside0 (WrS B g v2 l2 (w2.setCell ⟨g, 0, none⟩ v2)) ∧ Aside0 (Below B w0 (w2.setCell ⟨g, 0, none⟩ v2)) ∧ Aside0 (Far w (w2.setCell ⟨g, 0, none⟩ v2) (fun k => k = g ∨ some k = v.ownBlock)) ∧ Aside0 (v2.ownBlock = v.ownBlock ∨ ∃ b, v2.ownBlock = some b ∧ w.heap.size ≤ b) := by
  have hb2 : w2.heap[g]? = some (.cells #[v1] 40 (0, 0)) := blk_grown HW.out.blk HG.out (fun e => HW.out.row.1 g e.symm rfl)
  refine ⟨⟨⟨blk_put hb2 0 v2 rfl, Kd.R_far HO.out (fun k hk => hk) _⟩⟩, ⟨HB2.out.setCell hg _⟩, ⟨(HF.out.grown HG.out ?_).setCell (.inr (.inl rfl)) _⟩, ⟨?_⟩⟩
  · intro k hk
    rcases HV.out with h | ⟨b, h, hb⟩
    · rw [h] at hk; exact .inr (.inr hk.symm)
    · rw [h] at hk; injection hk with hk; subst hk; exact .inl hb
  · rcases HA.out with h | ⟨b, h, hb⟩
    · rw [h]; exact HV.out
    · exact .inr ⟨b, h, Nat.le_trans HF.out.size hb⟩
/-- What a writer's call leaves: the writer with those bytes, and nothing else turned. -/
def WPost (B g : Nat) (v : Value) (l : List Int) (w0 w : World) (e : Ending) (w' : World) : Prop := ∃ v', e = .returned (.pointer (some ⟨g, 0, none⟩)) ∧ WrS B g v' l w' ∧ Below B w0 w' ∧ Far w w' (fun k => k = g ∨ some k = v.ownBlock) ∧ (v'.ownBlock = v.ownBlock ∨ ∃ b, v'.ownBlock = some b ∧ w.heap.size ≤ b)
set_option maxHeartbeats 8000000 in
set_option maxRecDepth 100000 in
theorem Writer_Num.calls (B g : Nat) (v : Value) (l : List Int) (n : Int) (w0 w : World) (h0 : 0 ≤ n) (h1 : n < 18446744073709551616) (hl : l.length ≤ 1000000) (hB : Below B w0 w) (hg : B ≤ g) (hW : WrS B g v l w) :
    Calls Try.prog 27 #[.pointer (some ⟨g, 0, none⟩), .int .u64 n] w (WPost B g v (l ++ numB n) w0 w) := by

  have HW := Aside0.mk hW
  have HB := Aside0.mk hB
  have HL := Aside0.mk (show l.length + (numB n).length ≤ 1000010 by have := numB_len n 10 (by omega) (by omega); omega)
  clear hW hB
  go_enter Try.func27, Try.ntmps27
  go_wp2
  go_loopw [1] (fun x1 wr => ∃ (m : Int) (l1 : List Int) (v1 : Value), x1 = .int .u64 m ∧ 0 ≤ m ∧ m < 18446744073709551616 ∧ Aside0 (l1 ++ numB m = l ++ numB n) ∧ Aside0 (l1.length + (numB m).length ≤ 1000010) ∧ Aside0 (WrS B g v1 l1 wr) ∧ Aside0 (Below B w0 wr) ∧ Aside0 (Far w wr (fun k => k = g ∨ some k = v.ownBlock)) ∧ Aside0 (v1.ownBlock = v.ownBlock ∨ ∃ b, v1.ownBlock = some b ∧ w.heap.size ≤ b)) (fun x1 _ => (intOf x1).toNat)
  case atStart => exact ⟨n, l, v, rfl, h0, h1, ⟨rfl⟩, HL, HW, HB, ⟨Far.refl _ _⟩, ⟨.inl rfl⟩⟩
  case round =>
    clear HW HB HL
    obtain ⟨m, l1, v1, rfl, m0, m1, HE, HL, HW, HB, HF, HV⟩ := hrel
    have hc := HW.out.cell
    have hf := HW.out.free
    by_cases d : 128 ≤ m
    · have d1 : decide (128 ≤ m) = true := decide_eq_true d
      have HE1 := Aside0.mk (show (l1 ++ [m % 128 + 128]) ++ numB (m / 128) = l ++ numB n by have := HE.out; rw [numB, if_neg (by omega)] at this; simpa using this)
      have HL1 := Aside0.mk (show (l1 ++ [m % 128 + 128]).length + (numB (m / 128)).length ≤ 1000010 by have := HL.out; rw [numB, if_neg (by omega)] at this; simp at this ⊢; omega)
      have hor := or128 m m0
      have HS := Aside0.mk (blk_lt HW.out.blk)
      go_wp2_with ((with_reducible refine gate_builtin (b := .append) (xs := #[.tmp 15, .tmp 19]) rfl ?_); at_builtin; refine Kd.R_append (Kd.int .u8) (w0 := w0) B rfl (.tmp 15) (.tmp 19) 32 5 (.int .u8 0) 1 rfl Try.underlying32 info5 rfl (by decide) (by omega) v1 l1 (m % 128 + 128) [.int .u8 (m % 128 + 128)] (fun k => k ≠ g) (fun _ => False) rfl rfl ?aP (fun _ hk => hk.elim) ?aF ?aO ?aB ?aS ?aL ?_; (case aP => exact rfl); (case aB => exact HB.out); (case aF => intro k hk e; have := HS.out; omega); (case aO => exact HW.out.row); (case aS => have := HS.out; omega); (case aL => have := HL.out; omega); intro v2 w2 ho hb hgr hat; obtain ⟨A2, c2, rfl⟩ := Kd.R_slice ho; have HO := Aside0.mk ho; have HB2 := Aside0.mk hb; have HG := Aside0.mk hgr; have HA := Aside0.mk hat; have hc2 := blk_cell (blk_grown HW.out.blk hgr (fun e => HW.out.row.1 g e.symm rfl)) 0; have hf2 := blk_frozen (blk_grown HW.out.blk hgr (fun e => HW.out.row.1 g e.symm rfl)) 0; clear ho hb hgr hat)
      have HT := Wr_step hg HS HW HF HV HO HB2 HG HA
      simp only [List.length_append, List.length_cons, List.length_nil, Nat.zero_add] at HT
      go_roundw
      case rel => exact ⟨m / 128, _, _, rfl, by omega, by omega, HE1, HL1, HT.1, HT.2.1, HT.2.2.1, HT.2.2.2⟩
      case measure => simp [intOf]; omega
    · have d1 : decide (128 ≤ m) = false := decide_eq_false d
      have HE1 := Aside0.mk (show l1 ++ [m] = l ++ numB n by have := HE.out; rw [numB, if_pos (by omega)] at this; exact this)
      have HS := Aside0.mk (blk_lt HW.out.blk)
      have hm : m % 256 = m := by omega
      go_wp2_with ((with_reducible refine gate_builtin (b := .append) (xs := #[.tmp 27, .tmp 30]) rfl ?_); at_builtin; refine Kd.R_append (Kd.int .u8) (w0 := w0) B rfl (.tmp 27) (.tmp 30) 32 5 (.int .u8 0) 1 rfl Try.underlying32 info5 rfl (by decide) (by omega) v1 l1 m [.int .u8 m] (fun k => k ≠ g) (fun _ => False) rfl rfl ?aP (fun _ hk => hk.elim) ?aF ?aO ?aB ?aS ?aL ?_; (case aP => exact rfl); (case aB => exact HB.out); (case aF => intro k hk e; have := HS.out; omega); (case aO => exact HW.out.row); (case aS => have := HS.out; omega); (case aL => have := HL.out; omega); intro v2 w2 ho hb hgr hat; obtain ⟨A2, c2, rfl⟩ := Kd.R_slice ho; have HO := Aside0.mk ho; have HB2 := Aside0.mk hb; have HG := Aside0.mk hgr; have HA := Aside0.mk hat; have hc2 := blk_cell (blk_grown HW.out.blk hgr (fun e => HW.out.row.1 g e.symm rfl)) 0; have hf2 := blk_frozen (blk_grown HW.out.blk hgr (fun e => HW.out.row.1 g e.symm rfl)) 0; clear ho hb hgr hat)
      have HT := Wr_step hg HS HW HF HV HO HB2 HG HA
      simp only [List.length_append, List.length_cons, List.length_nil, Nat.zero_add] at HT
      go_ret
      refine ⟨_, rfl, ?_, HT.2.1.out, HT.2.2.1.out, HT.2.2.2.out⟩
      rw [← HE1.out]
      exact HT.1.out
def zz (n : Int) : Int := if 0 ≤ n then 2 * n else -2 * n - 1
theorem wrap_u64 (n : Int) : IntKind.u64.wrap n = n % 18446744073709551616 := by simp [IntKind.wrap, IntKind.bits, IntKind.signed]
theorem xor_zero (x : Int) : Go.bits .xor .u64 x 0 = x % 18446744073709551616 := by
  simp only [Go.bits]
  rw [wrap_u64, show BitVec.ofInt IntKind.u64.bits 0 = 0#64 from rfl]
  show (((BitVec.ofInt 64 x ^^^ 0#64).toNat : Nat) : Int) % 18446744073709551616 = _
  rw [BitVec.xor_zero, BitVec.toNat_ofInt]
  omega
theorem xor_ones (x : Int) (h : 0 ≤ x ∧ x < 18446744073709551616) : Go.bits .xor .u64 x 18446744073709551615 = 18446744073709551615 - x := by
  simp only [Go.bits]
  rw [wrap_u64, show BitVec.ofInt IntKind.u64.bits 18446744073709551615 = BitVec.allOnes 64 from rfl]
  show (((BitVec.ofInt 64 x ^^^ BitVec.allOnes 64).toNat : Nat) : Int) % 18446744073709551616 = _
  rw [BitVec.xor_allOnes, BitVec.toNat_not, BitVec.toNat_ofInt]
  omega
theorem zz_eq (n : Int) (h0 : -9223372036854775808 ≤ n) (h1 : n < 9223372036854775808) : Go.bits .xor .u64 (IntKind.u64.wrap (wrap64 (n * 2))) (IntKind.u64.wrap (n / 9223372036854775808)) = zz n := by
  rw [wrap_u64, wrap_u64]
  unfold zz wrap64
  by_cases c : 0 ≤ n
  · rw [if_pos c, show n / 9223372036854775808 % 18446744073709551616 = 0 from by omega, xor_zero]
    omega
  · rw [if_neg c, show n / 9223372036854775808 % 18446744073709551616 = 18446744073709551615 from by omega, xor_ones _ (by omega)]
    omega
theorem WPost.done {B g : Nat} {v : Value} {l l2 : List Int} {w0 w w' : World} {e e2 : Ending} (h : WPost B g v l w0 w e w') (hl : l = l2) (he : e2 = e) : WPost B g v l2 w0 w e2 w' := by subst hl he; exact h
theorem numB_small (n : Int) (h : n < 128) : numB n = [n] := by rw [numB, if_pos h]
set_option maxHeartbeats 8000000 in
set_option maxRecDepth 100000 in
theorem Writer_Int.calls (B g : Nat) (v : Value) (l : List Int) (n : Int) (w0 w : World) (h0 : -9223372036854775808 ≤ n) (h1 : n < 9223372036854775808) (hl : l.length ≤ 1000000) (hB : Below B w0 w) (hg : B ≤ g) (hW : WrS B g v l w) :
    Calls Try.prog 31 #[.pointer (some ⟨g, 0, none⟩), .int .i64 n] w (WPost B g v (l ++ numB (zz n)) w0 w) := by
  have HW := Aside0.mk hW
  have HB := Aside0.mk hB
  clear hW hB
  go_enter Try.func31, Try.ntmps31
  go_wp2_with fail
  rw [zz_eq n h0 h1]
  have z0 : 0 ≤ zz n ∧ zz n < 18446744073709551616 := by unfold zz; split <;> omega
  refine (Writer_Num.calls B g v l (zz n) w0 w z0.1 z0.2 hl HB.out hg HW.out).mono ?_
  clear HW HB
  rintro e w' h
  have H := Aside0.mk h
  obtain ⟨v', rfl, _⟩ := h
  go_wp2
  go_ret
  exact H.out.done rfl rfl
set_option maxHeartbeats 8000000 in
set_option maxRecDepth 100000 in
theorem Writer_Bool.calls (B g : Nat) (v : Value) (l : List Int) (b : Bool) (w0 w : World) (hl : l.length ≤ 1000000) (hB : Below B w0 w) (hg : B ≤ g) (hW : WrS B g v l w) :
    Calls Try.prog 70 #[.pointer (some ⟨g, 0, none⟩), .bool b] w (WPost B g v (l ++ [if b then 1 else 0]) w0 w) := by
  have HW := Aside0.mk hW
  have HB := Aside0.mk hB
  clear hW hB
  cases b with
  | true =>
    go_enter Try.func70, Try.ntmps70
    go_wp2_with fail
    refine (Writer_Num.calls B g v l 1 w0 w (by omega) (by omega) hl HB.out hg HW.out).mono ?_
    clear HW HB
    rintro e w' h
    have H := Aside0.mk h
    obtain ⟨v', rfl, _⟩ := h
    go_wp2
    go_ret
    exact H.out.done (by rw [numB_small 1 (by omega)]) rfl
  | false =>
    go_enter Try.func70, Try.ntmps70
    go_wp2_with fail
    refine (Writer_Num.calls B g v l 0 w0 w (by omega) (by omega) hl HB.out hg HW.out).mono ?_
    clear HW HB
    rintro e w' h
    have H := Aside0.mk h
    obtain ⟨v', rfl, _⟩ := h
    go_wp2
    go_ret
    exact H.out.done (by rw [numB_small 0 (by omega)]) rfl
set_option maxHeartbeats 8000000 in
set_option maxRecDepth 100000 in
theorem Clone.calls (A0 : Option Addr) (c0 : Nat) (l : List Int) (w : World) (hr0 : Kd.C (Kd.int .u8) w A0 l.length l) (hc0 : l.length ≤ c0) (hl : l.length ≤ 1073741824) :
    Calls Try.prog 66 #[.slice A0 l.length c0] w fun e w' => ∃ v', e = .returned v' ∧ Kd.R (Kd.int .u8) 5 w' w.heap.size (fun _ => True) v' l ∧ Below w.heap.size w w' := by
  have HR := Aside0.mk hr0
  have HC := Aside0.mk hc0
  have HL := Aside0.mk hl
  clear hr0 hc0 hl
  have HB := Aside0.mk (Below.refl w.heap.size w)
  have qS : ∀ (w : World) (a : Option Addr) (n c : Nat), (binOp .eql 32 (.slice a n c) (.slice none 0 0)).run Try.prog w = .ok (.bool a.isNone) w := fun w a n c => Lib.run_eql_slice_nil w _ _ _ _ _ _ _ Try.underlying32
  cases A0 with
  | none =>
    have hn : l = [] := by
      cases l with
      | nil => rfl
      | cons x t => obtain ⟨ad, e, _⟩ := HR.out.2.2 (by simp); exact absurd e (by simp)
    subst hn
    go_enter Try.func66, Try.ntmps66
    go_wp2
    go_ret
    exact ⟨_, rfl, Kd.R_nil _ _ _ _ _, HB.out⟩
  | some A =>
    go_enter Try.func66, Try.ntmps66
    go_wp2_with (first | ((with_reducible refine gate_dst (N := 5) rfl ?_); refine Kd.R_lit (Kd.int .u8) _ 5 ?hg (N := 5) ?hd (xs := ([] : List Int)) (inner := []) (ok := fun _ => True) (okp := fun _ => True) ?hr ?hp (fun _ hk => hk) trivial (Below.refl _ _) (Nat.le_refl _) (by simp) ?_; (case hd => rfl); (case hg => rfl); (case hr => first | (go_simp; done) | (go_simp; rfl)); (case hp => exact (Reps.none _ _)); intro v1 w1 ho hb hg_ hnew_; clear hg_ hnew_; have HR1 := Aside0.mk (Kd.C_below HR.out hb); have HO1 := Aside0.mk ho; have HB1 := Aside0.mk hb; clear ho hb) | ((with_reducible refine gate_builtin (b := .append) (xs := #[.tmp 5, .tmp 6]) rfl ?_); at_builtin; refine Kd.R_append_rows (Kd.int .u8) (w0 := w) w.heap.size rfl (.tmp 5) (.tmp 6) 32 5 (.int .u8 0) 1 rfl Try.underlying32 info5 rfl (by decide) (by omega) v1 [] l (some A) l.length c0 (fun _ => True) (fun _ => False) rfl rfl ?aO ?aR (fun _ _ h => h) (fun _ h => h.elim) ?aF ?aB ?aS ?aL ?_; (case aF => exact fun _ _ => trivial); (case aO => exact HO1.out); (case aR => exact HR1.out); (case aB => exact HB1.out); (case aS => exact HB1.out.size); (case aL => have := HL.out; simp; omega); intro v2 w2 ho hb hg hat; clear hg hat; have HO2 := Aside0.mk ho; have HB2 := Aside0.mk hb; clear ho hb))
    go_ret
    exact ⟨_, rfl, HO2.out, HB2.out⟩
set_option maxHeartbeats 8000000 in
set_option maxRecDepth 100000 in
theorem Bytes.calls (B g : Nat) (v : Value) (l : List Int) (w : World) (hl : l.length ≤ 1073741824) (hW : WrS B g v l w) :
    Calls Try.prog 28 #[.pointer (some ⟨g, 0, none⟩)] w fun e w' => ∃ v', e = .returned v' ∧ Kd.R (Kd.int .u8) 5 w' w.heap.size (fun _ => True) v' l ∧ Below w.heap.size w w' := by
  obtain ⟨A, c, rfl, hc, hC⟩ := Kd.R_reads hW.row
  have hcell := hW.cell
  have hfree := hW.free
  have HC := Aside0.mk hC
  clear hC
  go_enter Try.func28, Try.ntmps28
  go_wp2_with fail
  refine (Clone.calls A c l w HC.out hc hl).mono ?_
  rintro e w' ⟨v', rfl, ho, hb⟩
  have HO := Aside0.mk ho
  have HB := Aside0.mk hb
  clear ho hb
  go_wp2
  go_ret
  exact ⟨_, rfl, HO.out, HB.out⟩
set_option maxHeartbeats 8000000 in
set_option maxRecDepth 100000 in
theorem Bytes_nil.calls (w : World) :
    Calls Try.prog 28 #[.pointer none] w fun e w' => e = .returned (.slice none 0 0) ∧ Below w.heap.size w w' := by
  have HB := Aside0.mk (Below.refl w.heap.size w)
  go_enter Try.func28, Try.ntmps28
  go_wp2
  go_ret
  exact ⟨rfl, HB.out⟩
set_option maxHeartbeats 8000000 in
set_option maxRecDepth 100000 in
theorem Len.calls (B g : Nat) (v : Value) (l : List Int) (w : World) (hW : WrS B g v l w) :
    Calls Try.prog 36 #[.pointer (some ⟨g, 0, none⟩)] w fun e w' => e = .returned (.int .i64 l.length) ∧ Below w.heap.size w w' := by
  obtain ⟨A, c, rfl, hc, hC⟩ := Kd.R_reads hW.row
  have hcell := hW.cell
  have hfree := hW.free
  have HB := Aside0.mk (Below.refl w.heap.size w)
  go_enter Try.func36, Try.ntmps36
  go_wp2
  go_ret
  exact ⟨rfl, HB.out⟩
set_option maxHeartbeats 8000000 in
set_option maxRecDepth 100000 in
theorem Len_nil.calls (w : World) :
    Calls Try.prog 36 #[.pointer none] w fun e w' => e = .returned (.int .i64 0) ∧ Below w.heap.size w w' := by
  have HB := Aside0.mk (Below.refl w.heap.size w)
  go_enter Try.func36, Try.ntmps36
  go_wp2
  go_ret
  exact ⟨rfl, HB.out⟩
set_option maxHeartbeats 8000000 in
set_option maxRecDepth 100000 in
theorem Num_nil.calls (n : Int) (w : World) :
    Calls Try.prog 27 #[.pointer none, .int .u64 n] w fun e w' => e = .returned (.pointer none) ∧ Below w.heap.size w w' := by
  have HB := Aside0.mk (Below.refl w.heap.size w)
  go_enter Try.func27, Try.ntmps27
  go_wp2
  go_ret
  exact ⟨rfl, HB.out⟩
end Wr
end Go.Proofs.Ytjegkfdcelodeaa.P
