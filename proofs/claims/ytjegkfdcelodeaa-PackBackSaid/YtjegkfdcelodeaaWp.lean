import Derived.Test.YtjegkfdcelodeaaRd
import Derived.Test.YtjegkfdcelodeaaLw1
import Derived.Test.YtjegkfdcelodeaaPol
import Derived.Test.YtjegkfdcelodeaaPx14
import Derived.Test.YtjegkfdcelodeaaPx12
namespace Go.Proofs.Ytjegkfdcelodeaa.P
open Go.RowKit Go.Proofs.YtjegkfdcelodeaaW.PrintWords Go.Proofs.YtjegkfdcelodeaaW.PrintLast Go.Proofs.YtjegkfdcelodeaaW.PrintMore
attribute [local go_sem] max2_int min2_int max_two min_two max_three min_three max_four min_four
set_option linter.unusedVariables false
set_option linter.unusedSimpArgs false
namespace Wr
set_option maxHeartbeats 8000000 in
set_option maxRecDepth 100000 in
theorem WInt_nil.calls (n : Int) (w : World) :
    Calls Try.prog 31 #[.pointer none, .int .i64 n] w fun e w' => e = .returned (.pointer none) ∧ Below w.heap.size w w' := by
  go_enter Try.func31, Try.ntmps31
  go_wp2_with fail
  refine (Num_nil.calls _ w).mono ?_
  rintro e w' ⟨rfl, hb⟩
  have HB := Aside0.mk hb
  clear hb
  go_wp2
  go_ret
  exact ⟨rfl, HB.out⟩
set_option maxHeartbeats 8000000 in
set_option maxRecDepth 100000 in
theorem WText_nil.calls (s : ByteArray) (w : World) :
    Calls Try.prog 67 #[.pointer none, .string s] w fun e w' => e = .returned (.pointer none) ∧ Below w.heap.size w w' := by
  go_enter Try.func67, Try.ntmps67
  go_wp2_with fail
  refine (Num_nil.calls _ w).mono ?_
  rintro e w' ⟨rfl, hb⟩
  have HB := Aside0.mk hb
  clear hb
  go_wp2
  go_ret
  exact ⟨rfl, HB.out⟩
set_option maxHeartbeats 8000000 in
set_option maxRecDepth 100000 in
theorem WBool_nil.calls (b : Bool) (w : World) :
    Calls Try.prog 70 #[.pointer none, .bool b] w fun e w' => e = .returned (.pointer none) ∧ Below w.heap.size w w' := by
  cases b with
  | true =>
    go_enter Try.func70, Try.ntmps70
    go_wp2_with fail
    refine (Num_nil.calls _ w).mono ?_
    rintro e w' ⟨rfl, hb⟩
    have HB := Aside0.mk hb
    clear hb
    go_wp2
    go_ret
    exact ⟨rfl, HB.out⟩
  | false =>
    go_enter Try.func70, Try.ntmps70
    go_wp2_with fail
    refine (Num_nil.calls _ w).mono ?_
    rintro e w' ⟨rfl, hb⟩
    have HB := Aside0.mk hb
    clear hb
    go_wp2
    go_ret
    exact ⟨rfl, HB.out⟩
/-- The bytes of one thing that is put. -/
def partB (k m n s : Int) (t : ByteArray) (b : Bool) : List Int :=
  if k = 1 then numB n else if k = 5 then numB n else if k = 2 then numB (zz s) else if k = 3 then numB t.size ++ bytesOf t else if k = 4 then [if b then 1 else 0] else []
theorem WPost.from {B g : Nat} {v : Value} {l : List Int} {w0 w w1 w' : World} {e : Ending} (h : WPost B g v l w0 w1 e w') (hb : Below w.heap.size w w1) : WPost B g v l w0 w e w' := by
  obtain ⟨v', he, h1, h2, h3, h4⟩ := h
  refine ⟨v', he, h1, h2, (Far.below hb (fun k => k = g ∨ some k = v.ownBlock)).trans h3 (fun _ _ h => h), ?_⟩
  rcases h4 with h4 | ⟨b, h4, h5⟩
  · exact .inl h4
  · exact .inr ⟨b, h4, Nat.le_trans hb.size h5⟩
set_option maxHeartbeats 8000000 in
set_option maxRecDepth 100000 in
theorem put1.calls (B g : Nat) (v : Value) (l : List Int) (m n s : Int) (t : ByteArray) (b : Bool) (w0 w : World) (hn : 0 ≤ n ∧ n < 18446744073709551616) (hs : -9223372036854775808 ≤ s ∧ s < 9223372036854775808) (ht : t.size ≤ 1000) (hl : l.length ≤ 100000) (hB : Below B w0 w) (hg : B ≤ g) (hW : WrS B g v l w) :
    Calls Try.prog 35 #[.pointer (some ⟨g, 0, none⟩), .agg #[.int .i64 1, .int .i64 m, .int .u64 n, .int .i64 s, .string t, .bool b]] w (WPost B g v (l ++ partB 1 m n s t b) w0 w) := by
  have hgw : g < w.heap.size := blk_lt hW.blk
  have HB1 := Aside0.mk (show Below w.heap.size w (w.alloc (.cells #[.int .i64 1, .int .i64 m, .int .u64 n, .int .i64 s, .string t, .bool b] 52 (0, 0))) from (Below.refl _ w).alloc (Nat.le_refl _) _)
  have HW := Aside0.mk (show WrS B g v l (w.alloc (.cells #[.int .i64 1, .int .i64 m, .int .u64 n, .int .i64 s, .string t, .bool b] 52 (0, 0))) from hW.below HB1.out)
  have HB := Aside0.mk (show Below B w0 (w.alloc (.cells #[.int .i64 1, .int .i64 m, .int .u64 n, .int .i64 s, .string t, .bool b] 52 (0, 0))) from hB.alloc (by omega) _)
  have HK := Aside0.mk (show (w.alloc (.cells #[.int .i64 1, .int .i64 m, .int .u64 n, .int .i64 s, .string t, .bool b] 52 (0, 0))).heap[w.heap.size]? = some (.cells #[.int .i64 1, .int .i64 m, .int .u64 n, .int .i64 s, .string t, .bool b] 52 (0, 0)) from blk_new w _)
  clear hW hB
  have hc0 : (w.alloc (.cells #[.int .i64 1, .int .i64 m, .int .u64 n, .int .i64 s, .string t, .bool b] 52 (0, 0))).cell? ⟨w.heap.size, 0, none⟩ = some (.int .i64 1) := blk_cell HK.out 0
  have hc2 : (w.alloc (.cells #[.int .i64 1, .int .i64 m, .int .u64 n, .int .i64 s, .string t, .bool b] 52 (0, 0))).cell? ⟨w.heap.size, 2, none⟩ = some (.int .u64 n) := blk_cell HK.out 2
  have hc3 : (w.alloc (.cells #[.int .i64 1, .int .i64 m, .int .u64 n, .int .i64 s, .string t, .bool b] 52 (0, 0))).cell? ⟨w.heap.size, 3, none⟩ = some (.int .i64 s) := blk_cell HK.out 3
  have hc4 : (w.alloc (.cells #[.int .i64 1, .int .i64 m, .int .u64 n, .int .i64 s, .string t, .bool b] 52 (0, 0))).cell? ⟨w.heap.size, 4, none⟩ = some (.string t) := blk_cell HK.out 4
  have hc5 : (w.alloc (.cells #[.int .i64 1, .int .i64 m, .int .u64 n, .int .i64 s, .string t, .bool b] 52 (0, 0))).cell? ⟨w.heap.size, 5, none⟩ = some (.bool b) := blk_cell HK.out 5
  go_enter Try.func35, Try.ntmps35
  go_wp2_with fail
  refine (Writer_Num.calls B g v l n w0 _ hn.1 hn.2 (by omega) HB.out hg HW.out).mono ?_
  rintro e w' h
  have H := Aside0.mk h
  obtain ⟨v', rfl, _⟩ := h
  go_wp2
  go_ret
  exact (H.out.from HB1.out).done (by simp [partB]) rfl
set_option maxHeartbeats 8000000 in
set_option maxRecDepth 100000 in
theorem put5.calls (B g : Nat) (v : Value) (l : List Int) (m n s : Int) (t : ByteArray) (b : Bool) (w0 w : World) (hn : 0 ≤ n ∧ n < 18446744073709551616) (hs : -9223372036854775808 ≤ s ∧ s < 9223372036854775808) (ht : t.size ≤ 1000) (hl : l.length ≤ 100000) (hB : Below B w0 w) (hg : B ≤ g) (hW : WrS B g v l w) :
    Calls Try.prog 35 #[.pointer (some ⟨g, 0, none⟩), .agg #[.int .i64 5, .int .i64 m, .int .u64 n, .int .i64 s, .string t, .bool b]] w (WPost B g v (l ++ partB 5 m n s t b) w0 w) := by
  have hgw : g < w.heap.size := blk_lt hW.blk
  have HB1 := Aside0.mk (show Below w.heap.size w (w.alloc (.cells #[.int .i64 5, .int .i64 m, .int .u64 n, .int .i64 s, .string t, .bool b] 52 (0, 0))) from (Below.refl _ w).alloc (Nat.le_refl _) _)
  have HW := Aside0.mk (show WrS B g v l (w.alloc (.cells #[.int .i64 5, .int .i64 m, .int .u64 n, .int .i64 s, .string t, .bool b] 52 (0, 0))) from hW.below HB1.out)
  have HB := Aside0.mk (show Below B w0 (w.alloc (.cells #[.int .i64 5, .int .i64 m, .int .u64 n, .int .i64 s, .string t, .bool b] 52 (0, 0))) from hB.alloc (by omega) _)
  have HK := Aside0.mk (show (w.alloc (.cells #[.int .i64 5, .int .i64 m, .int .u64 n, .int .i64 s, .string t, .bool b] 52 (0, 0))).heap[w.heap.size]? = some (.cells #[.int .i64 5, .int .i64 m, .int .u64 n, .int .i64 s, .string t, .bool b] 52 (0, 0)) from blk_new w _)
  clear hW hB
  have hc0 : (w.alloc (.cells #[.int .i64 5, .int .i64 m, .int .u64 n, .int .i64 s, .string t, .bool b] 52 (0, 0))).cell? ⟨w.heap.size, 0, none⟩ = some (.int .i64 5) := blk_cell HK.out 0
  have hc2 : (w.alloc (.cells #[.int .i64 5, .int .i64 m, .int .u64 n, .int .i64 s, .string t, .bool b] 52 (0, 0))).cell? ⟨w.heap.size, 2, none⟩ = some (.int .u64 n) := blk_cell HK.out 2
  have hc3 : (w.alloc (.cells #[.int .i64 5, .int .i64 m, .int .u64 n, .int .i64 s, .string t, .bool b] 52 (0, 0))).cell? ⟨w.heap.size, 3, none⟩ = some (.int .i64 s) := blk_cell HK.out 3
  have hc4 : (w.alloc (.cells #[.int .i64 5, .int .i64 m, .int .u64 n, .int .i64 s, .string t, .bool b] 52 (0, 0))).cell? ⟨w.heap.size, 4, none⟩ = some (.string t) := blk_cell HK.out 4
  have hc5 : (w.alloc (.cells #[.int .i64 5, .int .i64 m, .int .u64 n, .int .i64 s, .string t, .bool b] 52 (0, 0))).cell? ⟨w.heap.size, 5, none⟩ = some (.bool b) := blk_cell HK.out 5
  go_enter Try.func35, Try.ntmps35
  go_wp2_with fail
  refine (Writer_Num.calls B g v l n w0 _ hn.1 hn.2 (by omega) HB.out hg HW.out).mono ?_
  rintro e w' h
  have H := Aside0.mk h
  obtain ⟨v', rfl, _⟩ := h
  go_wp2
  go_ret
  exact (H.out.from HB1.out).done (by simp [partB]) rfl
set_option maxHeartbeats 8000000 in
set_option maxRecDepth 100000 in
theorem put2.calls (B g : Nat) (v : Value) (l : List Int) (m n s : Int) (t : ByteArray) (b : Bool) (w0 w : World) (hn : 0 ≤ n ∧ n < 18446744073709551616) (hs : -9223372036854775808 ≤ s ∧ s < 9223372036854775808) (ht : t.size ≤ 1000) (hl : l.length ≤ 100000) (hB : Below B w0 w) (hg : B ≤ g) (hW : WrS B g v l w) :
    Calls Try.prog 35 #[.pointer (some ⟨g, 0, none⟩), .agg #[.int .i64 2, .int .i64 m, .int .u64 n, .int .i64 s, .string t, .bool b]] w (WPost B g v (l ++ partB 2 m n s t b) w0 w) := by
  have hgw : g < w.heap.size := blk_lt hW.blk
  have HB1 := Aside0.mk (show Below w.heap.size w (w.alloc (.cells #[.int .i64 2, .int .i64 m, .int .u64 n, .int .i64 s, .string t, .bool b] 52 (0, 0))) from (Below.refl _ w).alloc (Nat.le_refl _) _)
  have HW := Aside0.mk (show WrS B g v l (w.alloc (.cells #[.int .i64 2, .int .i64 m, .int .u64 n, .int .i64 s, .string t, .bool b] 52 (0, 0))) from hW.below HB1.out)
  have HB := Aside0.mk (show Below B w0 (w.alloc (.cells #[.int .i64 2, .int .i64 m, .int .u64 n, .int .i64 s, .string t, .bool b] 52 (0, 0))) from hB.alloc (by omega) _)
  have HK := Aside0.mk (show (w.alloc (.cells #[.int .i64 2, .int .i64 m, .int .u64 n, .int .i64 s, .string t, .bool b] 52 (0, 0))).heap[w.heap.size]? = some (.cells #[.int .i64 2, .int .i64 m, .int .u64 n, .int .i64 s, .string t, .bool b] 52 (0, 0)) from blk_new w _)
  clear hW hB
  have hc0 : (w.alloc (.cells #[.int .i64 2, .int .i64 m, .int .u64 n, .int .i64 s, .string t, .bool b] 52 (0, 0))).cell? ⟨w.heap.size, 0, none⟩ = some (.int .i64 2) := blk_cell HK.out 0
  have hc2 : (w.alloc (.cells #[.int .i64 2, .int .i64 m, .int .u64 n, .int .i64 s, .string t, .bool b] 52 (0, 0))).cell? ⟨w.heap.size, 2, none⟩ = some (.int .u64 n) := blk_cell HK.out 2
  have hc3 : (w.alloc (.cells #[.int .i64 2, .int .i64 m, .int .u64 n, .int .i64 s, .string t, .bool b] 52 (0, 0))).cell? ⟨w.heap.size, 3, none⟩ = some (.int .i64 s) := blk_cell HK.out 3
  have hc4 : (w.alloc (.cells #[.int .i64 2, .int .i64 m, .int .u64 n, .int .i64 s, .string t, .bool b] 52 (0, 0))).cell? ⟨w.heap.size, 4, none⟩ = some (.string t) := blk_cell HK.out 4
  have hc5 : (w.alloc (.cells #[.int .i64 2, .int .i64 m, .int .u64 n, .int .i64 s, .string t, .bool b] 52 (0, 0))).cell? ⟨w.heap.size, 5, none⟩ = some (.bool b) := blk_cell HK.out 5
  go_enter Try.func35, Try.ntmps35
  go_wp2_with fail
  refine (Writer_Int.calls B g v l s w0 _ hs.1 hs.2 (by omega) HB.out hg HW.out).mono ?_
  rintro e w' h
  have H := Aside0.mk h
  obtain ⟨v', rfl, _⟩ := h
  go_wp2
  go_ret
  exact (H.out.from HB1.out).done (by simp [partB]) rfl
set_option maxHeartbeats 8000000 in
set_option maxRecDepth 100000 in
theorem put3.calls (B g : Nat) (v : Value) (l : List Int) (m n s : Int) (t : ByteArray) (b : Bool) (w0 w : World) (hn : 0 ≤ n ∧ n < 18446744073709551616) (hs : -9223372036854775808 ≤ s ∧ s < 9223372036854775808) (ht : t.size ≤ 1000) (hl : l.length ≤ 100000) (hB : Below B w0 w) (hg : B ≤ g) (hW : WrS B g v l w) :
    Calls Try.prog 35 #[.pointer (some ⟨g, 0, none⟩), .agg #[.int .i64 3, .int .i64 m, .int .u64 n, .int .i64 s, .string t, .bool b]] w (WPost B g v (l ++ partB 3 m n s t b) w0 w) := by
  have hgw : g < w.heap.size := blk_lt hW.blk
  have HB1 := Aside0.mk (show Below w.heap.size w (w.alloc (.cells #[.int .i64 3, .int .i64 m, .int .u64 n, .int .i64 s, .string t, .bool b] 52 (0, 0))) from (Below.refl _ w).alloc (Nat.le_refl _) _)
  have HW := Aside0.mk (show WrS B g v l (w.alloc (.cells #[.int .i64 3, .int .i64 m, .int .u64 n, .int .i64 s, .string t, .bool b] 52 (0, 0))) from hW.below HB1.out)
  have HB := Aside0.mk (show Below B w0 (w.alloc (.cells #[.int .i64 3, .int .i64 m, .int .u64 n, .int .i64 s, .string t, .bool b] 52 (0, 0))) from hB.alloc (by omega) _)
  have HK := Aside0.mk (show (w.alloc (.cells #[.int .i64 3, .int .i64 m, .int .u64 n, .int .i64 s, .string t, .bool b] 52 (0, 0))).heap[w.heap.size]? = some (.cells #[.int .i64 3, .int .i64 m, .int .u64 n, .int .i64 s, .string t, .bool b] 52 (0, 0)) from blk_new w _)
  clear hW hB
  have hc0 : (w.alloc (.cells #[.int .i64 3, .int .i64 m, .int .u64 n, .int .i64 s, .string t, .bool b] 52 (0, 0))).cell? ⟨w.heap.size, 0, none⟩ = some (.int .i64 3) := blk_cell HK.out 0
  have hc2 : (w.alloc (.cells #[.int .i64 3, .int .i64 m, .int .u64 n, .int .i64 s, .string t, .bool b] 52 (0, 0))).cell? ⟨w.heap.size, 2, none⟩ = some (.int .u64 n) := blk_cell HK.out 2
  have hc3 : (w.alloc (.cells #[.int .i64 3, .int .i64 m, .int .u64 n, .int .i64 s, .string t, .bool b] 52 (0, 0))).cell? ⟨w.heap.size, 3, none⟩ = some (.int .i64 s) := blk_cell HK.out 3
  have hc4 : (w.alloc (.cells #[.int .i64 3, .int .i64 m, .int .u64 n, .int .i64 s, .string t, .bool b] 52 (0, 0))).cell? ⟨w.heap.size, 4, none⟩ = some (.string t) := blk_cell HK.out 4
  have hc5 : (w.alloc (.cells #[.int .i64 3, .int .i64 m, .int .u64 n, .int .i64 s, .string t, .bool b] 52 (0, 0))).cell? ⟨w.heap.size, 5, none⟩ = some (.bool b) := blk_cell HK.out 5
  go_enter Try.func35, Try.ntmps35
  go_wp2_with fail
  refine (Writer_Text.calls B g v l t w0 _ (by omega) (by omega) HB.out hg HW.out).mono ?_
  rintro e w' h
  have H := Aside0.mk h
  obtain ⟨v', rfl, _⟩ := h
  go_wp2
  go_ret
  exact (H.out.from HB1.out).done (by simp [partB]) rfl
set_option maxHeartbeats 8000000 in
set_option maxRecDepth 100000 in
theorem put4.calls (B g : Nat) (v : Value) (l : List Int) (m n s : Int) (t : ByteArray) (b : Bool) (w0 w : World) (hn : 0 ≤ n ∧ n < 18446744073709551616) (hs : -9223372036854775808 ≤ s ∧ s < 9223372036854775808) (ht : t.size ≤ 1000) (hl : l.length ≤ 100000) (hB : Below B w0 w) (hg : B ≤ g) (hW : WrS B g v l w) :
    Calls Try.prog 35 #[.pointer (some ⟨g, 0, none⟩), .agg #[.int .i64 4, .int .i64 m, .int .u64 n, .int .i64 s, .string t, .bool b]] w (WPost B g v (l ++ partB 4 m n s t b) w0 w) := by
  have hgw : g < w.heap.size := blk_lt hW.blk
  have HB1 := Aside0.mk (show Below w.heap.size w (w.alloc (.cells #[.int .i64 4, .int .i64 m, .int .u64 n, .int .i64 s, .string t, .bool b] 52 (0, 0))) from (Below.refl _ w).alloc (Nat.le_refl _) _)
  have HW := Aside0.mk (show WrS B g v l (w.alloc (.cells #[.int .i64 4, .int .i64 m, .int .u64 n, .int .i64 s, .string t, .bool b] 52 (0, 0))) from hW.below HB1.out)
  have HB := Aside0.mk (show Below B w0 (w.alloc (.cells #[.int .i64 4, .int .i64 m, .int .u64 n, .int .i64 s, .string t, .bool b] 52 (0, 0))) from hB.alloc (by omega) _)
  have HK := Aside0.mk (show (w.alloc (.cells #[.int .i64 4, .int .i64 m, .int .u64 n, .int .i64 s, .string t, .bool b] 52 (0, 0))).heap[w.heap.size]? = some (.cells #[.int .i64 4, .int .i64 m, .int .u64 n, .int .i64 s, .string t, .bool b] 52 (0, 0)) from blk_new w _)
  clear hW hB
  have hc0 : (w.alloc (.cells #[.int .i64 4, .int .i64 m, .int .u64 n, .int .i64 s, .string t, .bool b] 52 (0, 0))).cell? ⟨w.heap.size, 0, none⟩ = some (.int .i64 4) := blk_cell HK.out 0
  have hc2 : (w.alloc (.cells #[.int .i64 4, .int .i64 m, .int .u64 n, .int .i64 s, .string t, .bool b] 52 (0, 0))).cell? ⟨w.heap.size, 2, none⟩ = some (.int .u64 n) := blk_cell HK.out 2
  have hc3 : (w.alloc (.cells #[.int .i64 4, .int .i64 m, .int .u64 n, .int .i64 s, .string t, .bool b] 52 (0, 0))).cell? ⟨w.heap.size, 3, none⟩ = some (.int .i64 s) := blk_cell HK.out 3
  have hc4 : (w.alloc (.cells #[.int .i64 4, .int .i64 m, .int .u64 n, .int .i64 s, .string t, .bool b] 52 (0, 0))).cell? ⟨w.heap.size, 4, none⟩ = some (.string t) := blk_cell HK.out 4
  have hc5 : (w.alloc (.cells #[.int .i64 4, .int .i64 m, .int .u64 n, .int .i64 s, .string t, .bool b] 52 (0, 0))).cell? ⟨w.heap.size, 5, none⟩ = some (.bool b) := blk_cell HK.out 5
  go_enter Try.func35, Try.ntmps35
  go_wp2_with fail
  refine (Writer_Bool.calls B g v l b w0 _ (by omega) HB.out hg HW.out).mono ?_
  rintro e w' h
  have H := Aside0.mk h
  obtain ⟨v', rfl, _⟩ := h
  go_wp2
  go_ret
  exact (H.out.from HB1.out).done (by simp [partB]) rfl
set_option maxHeartbeats 8000000 in
set_option maxRecDepth 100000 in
theorem put0.calls (B g : Nat) (v : Value) (l : List Int) (k : Int) (m n s : Int) (t : ByteArray) (b : Bool) (w0 w : World) (h1 : k ≠ 1) (h5 : k ≠ 5) (h2 : k ≠ 2) (h3 : k ≠ 3) (h4 : k ≠ 4) (hn : 0 ≤ n ∧ n < 18446744073709551616) (hs : -9223372036854775808 ≤ s ∧ s < 9223372036854775808) (ht : t.size ≤ 1000) (hl : l.length ≤ 100000) (hB : Below B w0 w) (hg : B ≤ g) (hW : WrS B g v l w) :
    Calls Try.prog 35 #[.pointer (some ⟨g, 0, none⟩), .agg #[.int .i64 k, .int .i64 m, .int .u64 n, .int .i64 s, .string t, .bool b]] w (WPost B g v (l ++ partB k m n s t b) w0 w) := by
  have hgw : g < w.heap.size := blk_lt hW.blk
  have HB1 := Aside0.mk (show Below w.heap.size w (w.alloc (.cells #[.int .i64 k, .int .i64 m, .int .u64 n, .int .i64 s, .string t, .bool b] 52 (0, 0))) from (Below.refl _ w).alloc (Nat.le_refl _) _)
  have HW := Aside0.mk (show WrS B g v l (w.alloc (.cells #[.int .i64 k, .int .i64 m, .int .u64 n, .int .i64 s, .string t, .bool b] 52 (0, 0))) from hW.below HB1.out)
  have HB := Aside0.mk (show Below B w0 (w.alloc (.cells #[.int .i64 k, .int .i64 m, .int .u64 n, .int .i64 s, .string t, .bool b] 52 (0, 0))) from hB.alloc (by omega) _)
  have HK := Aside0.mk (show (w.alloc (.cells #[.int .i64 k, .int .i64 m, .int .u64 n, .int .i64 s, .string t, .bool b] 52 (0, 0))).heap[w.heap.size]? = some (.cells #[.int .i64 k, .int .i64 m, .int .u64 n, .int .i64 s, .string t, .bool b] 52 (0, 0)) from blk_new w _)
  clear hW hB
  have hc0 : (w.alloc (.cells #[.int .i64 k, .int .i64 m, .int .u64 n, .int .i64 s, .string t, .bool b] 52 (0, 0))).cell? ⟨w.heap.size, 0, none⟩ = some (.int .i64 k) := blk_cell HK.out 0
  have hc2 : (w.alloc (.cells #[.int .i64 k, .int .i64 m, .int .u64 n, .int .i64 s, .string t, .bool b] 52 (0, 0))).cell? ⟨w.heap.size, 2, none⟩ = some (.int .u64 n) := blk_cell HK.out 2
  have hc3 : (w.alloc (.cells #[.int .i64 k, .int .i64 m, .int .u64 n, .int .i64 s, .string t, .bool b] 52 (0, 0))).cell? ⟨w.heap.size, 3, none⟩ = some (.int .i64 s) := blk_cell HK.out 3
  have hc4 : (w.alloc (.cells #[.int .i64 k, .int .i64 m, .int .u64 n, .int .i64 s, .string t, .bool b] 52 (0, 0))).cell? ⟨w.heap.size, 4, none⟩ = some (.string t) := blk_cell HK.out 4
  have hc5 : (w.alloc (.cells #[.int .i64 k, .int .i64 m, .int .u64 n, .int .i64 s, .string t, .bool b] 52 (0, 0))).cell? ⟨w.heap.size, 5, none⟩ = some (.bool b) := blk_cell HK.out 5
  go_enter Try.func35, Try.ntmps35
  have e1 : (k == 1) = false := beq_eq_false_iff_ne.mpr h1
  have e5 : (k == 5) = false := beq_eq_false_iff_ne.mpr h5
  have e2 : (k == 2) = false := beq_eq_false_iff_ne.mpr h2
  have e3 : (k == 3) = false := beq_eq_false_iff_ne.mpr h3
  have e4 : (k == 4) = false := beq_eq_false_iff_ne.mpr h4
  have hp : partB k m n s t b = [] := by simp [partB, h1, h2, h3, h4, h5]
  have HP := Aside0.mk hp
  clear h1 h2 h3 h4 h5 hp
  go_wp2
  go_ret
  rw [HP.out, List.append_nil]
  exact ⟨v, rfl, HW.out, HB.out, Far.below HB1.out _, .inl rfl⟩
theorem put.calls (B g : Nat) (v : Value) (l : List Int) (k m n s : Int) (t : ByteArray) (b : Bool) (w0 w : World) (hn : 0 ≤ n ∧ n < 18446744073709551616) (hs : -9223372036854775808 ≤ s ∧ s < 9223372036854775808) (ht : t.size ≤ 1000) (hl : l.length ≤ 100000) (hB : Below B w0 w) (hg : B ≤ g) (hW : WrS B g v l w) :
    Calls Try.prog 35 #[.pointer (some ⟨g, 0, none⟩), .agg #[.int .i64 k, .int .i64 m, .int .u64 n, .int .i64 s, .string t, .bool b]] w (WPost B g v (l ++ partB k m n s t b) w0 w) := by
  by_cases h1 : k = 1
  · subst h1; exact put1.calls B g v l m n s t b w0 w hn hs ht hl hB hg hW
  by_cases h5 : k = 5
  · subst h5; exact put5.calls B g v l m n s t b w0 w hn hs ht hl hB hg hW
  by_cases h2 : k = 2
  · subst h2; exact put2.calls B g v l m n s t b w0 w hn hs ht hl hB hg hW
  by_cases h3 : k = 3
  · subst h3; exact put3.calls B g v l m n s t b w0 w hn hs ht hl hB hg hW
  by_cases h4 : k = 4
  · subst h4; exact put4.calls B g v l m n s t b w0 w hn hs ht hl hB hg hW
  exact put0.calls B g v l k m n s t b w0 w h1 h5 h2 h3 h4 hn hs ht hl hB hg hW
set_option maxHeartbeats 8000000 in
set_option maxRecDepth 100000 in
theorem putn1.calls (m n s : Int) (t : ByteArray) (b : Bool) (w : World) :
    Calls Try.prog 35 #[.pointer none, .agg #[.int .i64 1, .int .i64 m, .int .u64 n, .int .i64 s, .string t, .bool b]] w fun e w' => e = .returned (.pointer none) ∧ Below w.heap.size w w' := by
  have HB1 := Aside0.mk (show Below w.heap.size w (w.alloc (.cells #[.int .i64 1, .int .i64 m, .int .u64 n, .int .i64 s, .string t, .bool b] 52 (0, 0))) from (Below.refl _ w).alloc (Nat.le_refl _) _)
  have HK := Aside0.mk (show (w.alloc (.cells #[.int .i64 1, .int .i64 m, .int .u64 n, .int .i64 s, .string t, .bool b] 52 (0, 0))).heap[w.heap.size]? = some (.cells #[.int .i64 1, .int .i64 m, .int .u64 n, .int .i64 s, .string t, .bool b] 52 (0, 0)) from blk_new w _)
  have hc0 : (w.alloc (.cells #[.int .i64 1, .int .i64 m, .int .u64 n, .int .i64 s, .string t, .bool b] 52 (0, 0))).cell? ⟨w.heap.size, 0, none⟩ = some (.int .i64 1) := blk_cell HK.out 0
  have hc2 : (w.alloc (.cells #[.int .i64 1, .int .i64 m, .int .u64 n, .int .i64 s, .string t, .bool b] 52 (0, 0))).cell? ⟨w.heap.size, 2, none⟩ = some (.int .u64 n) := blk_cell HK.out 2
  have hc3 : (w.alloc (.cells #[.int .i64 1, .int .i64 m, .int .u64 n, .int .i64 s, .string t, .bool b] 52 (0, 0))).cell? ⟨w.heap.size, 3, none⟩ = some (.int .i64 s) := blk_cell HK.out 3
  have hc4 : (w.alloc (.cells #[.int .i64 1, .int .i64 m, .int .u64 n, .int .i64 s, .string t, .bool b] 52 (0, 0))).cell? ⟨w.heap.size, 4, none⟩ = some (.string t) := blk_cell HK.out 4
  have hc5 : (w.alloc (.cells #[.int .i64 1, .int .i64 m, .int .u64 n, .int .i64 s, .string t, .bool b] 52 (0, 0))).cell? ⟨w.heap.size, 5, none⟩ = some (.bool b) := blk_cell HK.out 5
  go_enter Try.func35, Try.ntmps35
  go_wp2_with fail
  refine (Num_nil.calls n _).mono ?_
  rintro e w' ⟨rfl, hb⟩
  have H := Aside0.mk (below_step HB1.out hb)
  clear hb
  go_wp2
  go_ret
  exact ⟨rfl, H.out⟩
set_option maxHeartbeats 8000000 in
set_option maxRecDepth 100000 in
theorem putn5.calls (m n s : Int) (t : ByteArray) (b : Bool) (w : World) :
    Calls Try.prog 35 #[.pointer none, .agg #[.int .i64 5, .int .i64 m, .int .u64 n, .int .i64 s, .string t, .bool b]] w fun e w' => e = .returned (.pointer none) ∧ Below w.heap.size w w' := by
  have HB1 := Aside0.mk (show Below w.heap.size w (w.alloc (.cells #[.int .i64 5, .int .i64 m, .int .u64 n, .int .i64 s, .string t, .bool b] 52 (0, 0))) from (Below.refl _ w).alloc (Nat.le_refl _) _)
  have HK := Aside0.mk (show (w.alloc (.cells #[.int .i64 5, .int .i64 m, .int .u64 n, .int .i64 s, .string t, .bool b] 52 (0, 0))).heap[w.heap.size]? = some (.cells #[.int .i64 5, .int .i64 m, .int .u64 n, .int .i64 s, .string t, .bool b] 52 (0, 0)) from blk_new w _)
  have hc0 : (w.alloc (.cells #[.int .i64 5, .int .i64 m, .int .u64 n, .int .i64 s, .string t, .bool b] 52 (0, 0))).cell? ⟨w.heap.size, 0, none⟩ = some (.int .i64 5) := blk_cell HK.out 0
  have hc2 : (w.alloc (.cells #[.int .i64 5, .int .i64 m, .int .u64 n, .int .i64 s, .string t, .bool b] 52 (0, 0))).cell? ⟨w.heap.size, 2, none⟩ = some (.int .u64 n) := blk_cell HK.out 2
  have hc3 : (w.alloc (.cells #[.int .i64 5, .int .i64 m, .int .u64 n, .int .i64 s, .string t, .bool b] 52 (0, 0))).cell? ⟨w.heap.size, 3, none⟩ = some (.int .i64 s) := blk_cell HK.out 3
  have hc4 : (w.alloc (.cells #[.int .i64 5, .int .i64 m, .int .u64 n, .int .i64 s, .string t, .bool b] 52 (0, 0))).cell? ⟨w.heap.size, 4, none⟩ = some (.string t) := blk_cell HK.out 4
  have hc5 : (w.alloc (.cells #[.int .i64 5, .int .i64 m, .int .u64 n, .int .i64 s, .string t, .bool b] 52 (0, 0))).cell? ⟨w.heap.size, 5, none⟩ = some (.bool b) := blk_cell HK.out 5
  go_enter Try.func35, Try.ntmps35
  go_wp2_with fail
  refine (Num_nil.calls n _).mono ?_
  rintro e w' ⟨rfl, hb⟩
  have H := Aside0.mk (below_step HB1.out hb)
  clear hb
  go_wp2
  go_ret
  exact ⟨rfl, H.out⟩
set_option maxHeartbeats 8000000 in
set_option maxRecDepth 100000 in
theorem putn2.calls (m n s : Int) (t : ByteArray) (b : Bool) (w : World) :
    Calls Try.prog 35 #[.pointer none, .agg #[.int .i64 2, .int .i64 m, .int .u64 n, .int .i64 s, .string t, .bool b]] w fun e w' => e = .returned (.pointer none) ∧ Below w.heap.size w w' := by
  have HB1 := Aside0.mk (show Below w.heap.size w (w.alloc (.cells #[.int .i64 2, .int .i64 m, .int .u64 n, .int .i64 s, .string t, .bool b] 52 (0, 0))) from (Below.refl _ w).alloc (Nat.le_refl _) _)
  have HK := Aside0.mk (show (w.alloc (.cells #[.int .i64 2, .int .i64 m, .int .u64 n, .int .i64 s, .string t, .bool b] 52 (0, 0))).heap[w.heap.size]? = some (.cells #[.int .i64 2, .int .i64 m, .int .u64 n, .int .i64 s, .string t, .bool b] 52 (0, 0)) from blk_new w _)
  have hc0 : (w.alloc (.cells #[.int .i64 2, .int .i64 m, .int .u64 n, .int .i64 s, .string t, .bool b] 52 (0, 0))).cell? ⟨w.heap.size, 0, none⟩ = some (.int .i64 2) := blk_cell HK.out 0
  have hc2 : (w.alloc (.cells #[.int .i64 2, .int .i64 m, .int .u64 n, .int .i64 s, .string t, .bool b] 52 (0, 0))).cell? ⟨w.heap.size, 2, none⟩ = some (.int .u64 n) := blk_cell HK.out 2
  have hc3 : (w.alloc (.cells #[.int .i64 2, .int .i64 m, .int .u64 n, .int .i64 s, .string t, .bool b] 52 (0, 0))).cell? ⟨w.heap.size, 3, none⟩ = some (.int .i64 s) := blk_cell HK.out 3
  have hc4 : (w.alloc (.cells #[.int .i64 2, .int .i64 m, .int .u64 n, .int .i64 s, .string t, .bool b] 52 (0, 0))).cell? ⟨w.heap.size, 4, none⟩ = some (.string t) := blk_cell HK.out 4
  have hc5 : (w.alloc (.cells #[.int .i64 2, .int .i64 m, .int .u64 n, .int .i64 s, .string t, .bool b] 52 (0, 0))).cell? ⟨w.heap.size, 5, none⟩ = some (.bool b) := blk_cell HK.out 5
  go_enter Try.func35, Try.ntmps35
  go_wp2_with fail
  refine (WInt_nil.calls s _).mono ?_
  rintro e w' ⟨rfl, hb⟩
  have H := Aside0.mk (below_step HB1.out hb)
  clear hb
  go_wp2
  go_ret
  exact ⟨rfl, H.out⟩
set_option maxHeartbeats 8000000 in
set_option maxRecDepth 100000 in
theorem putn3.calls (m n s : Int) (t : ByteArray) (b : Bool) (w : World) :
    Calls Try.prog 35 #[.pointer none, .agg #[.int .i64 3, .int .i64 m, .int .u64 n, .int .i64 s, .string t, .bool b]] w fun e w' => e = .returned (.pointer none) ∧ Below w.heap.size w w' := by
  have HB1 := Aside0.mk (show Below w.heap.size w (w.alloc (.cells #[.int .i64 3, .int .i64 m, .int .u64 n, .int .i64 s, .string t, .bool b] 52 (0, 0))) from (Below.refl _ w).alloc (Nat.le_refl _) _)
  have HK := Aside0.mk (show (w.alloc (.cells #[.int .i64 3, .int .i64 m, .int .u64 n, .int .i64 s, .string t, .bool b] 52 (0, 0))).heap[w.heap.size]? = some (.cells #[.int .i64 3, .int .i64 m, .int .u64 n, .int .i64 s, .string t, .bool b] 52 (0, 0)) from blk_new w _)
  have hc0 : (w.alloc (.cells #[.int .i64 3, .int .i64 m, .int .u64 n, .int .i64 s, .string t, .bool b] 52 (0, 0))).cell? ⟨w.heap.size, 0, none⟩ = some (.int .i64 3) := blk_cell HK.out 0
  have hc2 : (w.alloc (.cells #[.int .i64 3, .int .i64 m, .int .u64 n, .int .i64 s, .string t, .bool b] 52 (0, 0))).cell? ⟨w.heap.size, 2, none⟩ = some (.int .u64 n) := blk_cell HK.out 2
  have hc3 : (w.alloc (.cells #[.int .i64 3, .int .i64 m, .int .u64 n, .int .i64 s, .string t, .bool b] 52 (0, 0))).cell? ⟨w.heap.size, 3, none⟩ = some (.int .i64 s) := blk_cell HK.out 3
  have hc4 : (w.alloc (.cells #[.int .i64 3, .int .i64 m, .int .u64 n, .int .i64 s, .string t, .bool b] 52 (0, 0))).cell? ⟨w.heap.size, 4, none⟩ = some (.string t) := blk_cell HK.out 4
  have hc5 : (w.alloc (.cells #[.int .i64 3, .int .i64 m, .int .u64 n, .int .i64 s, .string t, .bool b] 52 (0, 0))).cell? ⟨w.heap.size, 5, none⟩ = some (.bool b) := blk_cell HK.out 5
  go_enter Try.func35, Try.ntmps35
  go_wp2_with fail
  refine (WText_nil.calls t _).mono ?_
  rintro e w' ⟨rfl, hb⟩
  have H := Aside0.mk (below_step HB1.out hb)
  clear hb
  go_wp2
  go_ret
  exact ⟨rfl, H.out⟩
set_option maxHeartbeats 8000000 in
set_option maxRecDepth 100000 in
theorem putn4.calls (m n s : Int) (t : ByteArray) (b : Bool) (w : World) :
    Calls Try.prog 35 #[.pointer none, .agg #[.int .i64 4, .int .i64 m, .int .u64 n, .int .i64 s, .string t, .bool b]] w fun e w' => e = .returned (.pointer none) ∧ Below w.heap.size w w' := by
  have HB1 := Aside0.mk (show Below w.heap.size w (w.alloc (.cells #[.int .i64 4, .int .i64 m, .int .u64 n, .int .i64 s, .string t, .bool b] 52 (0, 0))) from (Below.refl _ w).alloc (Nat.le_refl _) _)
  have HK := Aside0.mk (show (w.alloc (.cells #[.int .i64 4, .int .i64 m, .int .u64 n, .int .i64 s, .string t, .bool b] 52 (0, 0))).heap[w.heap.size]? = some (.cells #[.int .i64 4, .int .i64 m, .int .u64 n, .int .i64 s, .string t, .bool b] 52 (0, 0)) from blk_new w _)
  have hc0 : (w.alloc (.cells #[.int .i64 4, .int .i64 m, .int .u64 n, .int .i64 s, .string t, .bool b] 52 (0, 0))).cell? ⟨w.heap.size, 0, none⟩ = some (.int .i64 4) := blk_cell HK.out 0
  have hc2 : (w.alloc (.cells #[.int .i64 4, .int .i64 m, .int .u64 n, .int .i64 s, .string t, .bool b] 52 (0, 0))).cell? ⟨w.heap.size, 2, none⟩ = some (.int .u64 n) := blk_cell HK.out 2
  have hc3 : (w.alloc (.cells #[.int .i64 4, .int .i64 m, .int .u64 n, .int .i64 s, .string t, .bool b] 52 (0, 0))).cell? ⟨w.heap.size, 3, none⟩ = some (.int .i64 s) := blk_cell HK.out 3
  have hc4 : (w.alloc (.cells #[.int .i64 4, .int .i64 m, .int .u64 n, .int .i64 s, .string t, .bool b] 52 (0, 0))).cell? ⟨w.heap.size, 4, none⟩ = some (.string t) := blk_cell HK.out 4
  have hc5 : (w.alloc (.cells #[.int .i64 4, .int .i64 m, .int .u64 n, .int .i64 s, .string t, .bool b] 52 (0, 0))).cell? ⟨w.heap.size, 5, none⟩ = some (.bool b) := blk_cell HK.out 5
  go_enter Try.func35, Try.ntmps35
  go_wp2_with fail
  refine (WBool_nil.calls b _).mono ?_
  rintro e w' ⟨rfl, hb⟩
  have H := Aside0.mk (below_step HB1.out hb)
  clear hb
  go_wp2
  go_ret
  exact ⟨rfl, H.out⟩
set_option maxHeartbeats 8000000 in
set_option maxRecDepth 100000 in
theorem putn0.calls (k : Int) (m n s : Int) (t : ByteArray) (b : Bool) (w : World) (h1 : k ≠ 1) (h5 : k ≠ 5) (h2 : k ≠ 2) (h3 : k ≠ 3) (h4 : k ≠ 4) :
    Calls Try.prog 35 #[.pointer none, .agg #[.int .i64 k, .int .i64 m, .int .u64 n, .int .i64 s, .string t, .bool b]] w fun e w' => e = .returned (.pointer none) ∧ Below w.heap.size w w' := by
  have HB1 := Aside0.mk (show Below w.heap.size w (w.alloc (.cells #[.int .i64 k, .int .i64 m, .int .u64 n, .int .i64 s, .string t, .bool b] 52 (0, 0))) from (Below.refl _ w).alloc (Nat.le_refl _) _)
  have HK := Aside0.mk (show (w.alloc (.cells #[.int .i64 k, .int .i64 m, .int .u64 n, .int .i64 s, .string t, .bool b] 52 (0, 0))).heap[w.heap.size]? = some (.cells #[.int .i64 k, .int .i64 m, .int .u64 n, .int .i64 s, .string t, .bool b] 52 (0, 0)) from blk_new w _)
  have hc0 : (w.alloc (.cells #[.int .i64 k, .int .i64 m, .int .u64 n, .int .i64 s, .string t, .bool b] 52 (0, 0))).cell? ⟨w.heap.size, 0, none⟩ = some (.int .i64 k) := blk_cell HK.out 0
  have hc2 : (w.alloc (.cells #[.int .i64 k, .int .i64 m, .int .u64 n, .int .i64 s, .string t, .bool b] 52 (0, 0))).cell? ⟨w.heap.size, 2, none⟩ = some (.int .u64 n) := blk_cell HK.out 2
  have hc3 : (w.alloc (.cells #[.int .i64 k, .int .i64 m, .int .u64 n, .int .i64 s, .string t, .bool b] 52 (0, 0))).cell? ⟨w.heap.size, 3, none⟩ = some (.int .i64 s) := blk_cell HK.out 3
  have hc4 : (w.alloc (.cells #[.int .i64 k, .int .i64 m, .int .u64 n, .int .i64 s, .string t, .bool b] 52 (0, 0))).cell? ⟨w.heap.size, 4, none⟩ = some (.string t) := blk_cell HK.out 4
  have hc5 : (w.alloc (.cells #[.int .i64 k, .int .i64 m, .int .u64 n, .int .i64 s, .string t, .bool b] 52 (0, 0))).cell? ⟨w.heap.size, 5, none⟩ = some (.bool b) := blk_cell HK.out 5
  go_enter Try.func35, Try.ntmps35
  have e1 : (k == 1) = false := beq_eq_false_iff_ne.mpr h1
  have e5 : (k == 5) = false := beq_eq_false_iff_ne.mpr h5
  have e2 : (k == 2) = false := beq_eq_false_iff_ne.mpr h2
  have e3 : (k == 3) = false := beq_eq_false_iff_ne.mpr h3
  have e4 : (k == 4) = false := beq_eq_false_iff_ne.mpr h4
  clear h1 h2 h3 h4 h5
  go_wp2
  go_ret
  exact ⟨rfl, HB1.out⟩
theorem put_nil.calls (k m n s : Int) (t : ByteArray) (b : Bool) (w : World) :
    Calls Try.prog 35 #[.pointer none, .agg #[.int .i64 k, .int .i64 m, .int .u64 n, .int .i64 s, .string t, .bool b]] w fun e w' => e = .returned (.pointer none) ∧ Below w.heap.size w w' := by
  by_cases h1 : k = 1
  · subst h1; exact putn1.calls m n s t b w
  by_cases h5 : k = 5
  · subst h5; exact putn5.calls m n s t b w
  by_cases h2 : k = 2
  · subst h2; exact putn2.calls m n s t b w
  by_cases h3 : k = 3
  · subst h3; exact putn3.calls m n s t b w
  by_cases h4 : k = 4
  · subst h4; exact putn4.calls m n s t b w
  exact putn0.calls k m n s t b w h1 h5 h2 h3 h4
end Wr
end Go.Proofs.Ytjegkfdcelodeaa.P

namespace Go.Proofs.Ytjegkfdcelodeaa.Pol
set_option linter.unusedVariables false
set_option linter.unusedSimpArgs false
open Go.RowKit Go.Proofs.Ytjegkfdcelodeaa.P Go.Proofs.Ytjegkfdcelodeaa.P.Wr Go.Proofs.YtjegkfdcelodeaaW.PrintWords Go.Proofs.YtjegkfdcelodeaaW.PrintLast Go.Proofs.YtjegkfdcelodeaaW.PrintMore
theorem light_loop (l : List S52) (hl : l.length ≤ 40) : ∀ (d k i : Nat), i + d = l.length → d < k → ossuarylaw01_light.l0 k l i = some ((l.drop i).all (fun p => decide (p.f4.size ≤ 60)))
  | _, 0, _, _, h => absurd h (by omega)
  | 0, k + 1, i, hi, h => by
    rw [ossuarylaw01_light.l0, if_neg (by omega), List.drop_eq_nil_of_le (by omega)]; rfl
  | d + 1, k + 1, i, hi, h => by
    have hil : i < l.length := by omega
    have e : rd_T52 l (i : Int) = l[i] := by simp [rd_T52, List.getD_eq_getElem?_getD, hil]
    rw [ossuarylaw01_light.l0, if_pos (by omega), if_pos (by omega), e, List.drop_eq_getElem_cons hil, List.all_cons]
    by_cases c : (l[i].f4.size : Int) > 60
    · rw [if_pos c, show decide (l[i].f4.size ≤ 60) = false from decide_eq_false (by omega)]; rfl
    · rw [if_neg c, show decide (l[i].f4.size ≤ 60) = true from decide_eq_true (by omega), w64 _ (by omega), show (i : Int) + 1 = ((i + 1 : Nat) : Int) by omega, light_loop l hl d k (i + 1) (by omega) (by omega)]; rfl
def lightV (l : List S52) : Bool := decide (l.length ≤ 40) && l.all (fun p => decide (p.f4.size ≤ 60))
theorem light_eq (l : List S52) : ossuarylaw01_light.f 50 l = some (lightV l) := by
  unfold ossuarylaw01_light.f lightV
  by_cases c : (l.length : Int) > 40
  · rw [if_pos c, show decide (l.length ≤ 40) = false from decide_eq_false (by omega)]; rfl
  · rw [if_neg c, show decide (l.length ≤ 40) = true from decide_eq_true (by omega)]
    have := light_loop l (by omega) l.length 50 0 (by omega) (by omega)
    rw [List.drop_zero] at this
    exact this
theorem lightV_spec {l : List S52} (h : lightV l = true) : l.length ≤ 40 ∧ ∀ p ∈ l, p.f4.size ≤ 60 := by
  unfold lightV at h
  simp at h
  exact h
theorem ref_Int_eq (k : Nat) (n : Int) (h : -9223372036854775808 ≤ n ∧ n < 9223372036854775808) (hk : 10 ≤ k) (hk2 : k ≤ 1000000) : ossuaryref01_Int.f k n = some (numB (zz n)) := by
  unfold ossuaryref01_Int.f zz
  by_cases c : 0 ≤ n
  · rw [if_pos c, if_pos c, wrap_u64, wrap_u64, show 2 * (n % 18446744073709551616) % 18446744073709551616 = 2 * n by omega, ref_Num_eq k _ (by omega) (by omega) hk hk2]; rfl
  · rw [if_neg c, if_neg c, w64 (n + 1) (by omega), w64 (-(n + 1)) (by omega), wrap_u64, wrap_u64, wrap_u64, show (2 * (-(n + 1) % 18446744073709551616) % 18446744073709551616 + 1) % 18446744073709551616 = -2 * n - 1 by omega, ref_Num_eq k _ (by omega) (by omega) hk hk2]; rfl
def partS (p : S52) : List Int := partB p.f0 p.f1 p.f2 p.f3 p.f4 p.f5
def putsB (l : List S52) : List Int := l.flatMap partS
def okS (p : S52) : Prop := (0 ≤ p.f2 ∧ p.f2 < 18446744073709551616) ∧ (-9223372036854775808 ≤ p.f3 ∧ p.f3 < 9223372036854775808)
theorem form_eq (p : S52) (hp : okS p) (ht : p.f4.size ≤ 1000) : ossuarylaw01_form.f 100 p.f0 p.f1 p.f2 p.f3 p.f4 p.f5 = some (partS p) := by
  obtain ⟨k, m, n, s, t, b⟩ := p
  obtain ⟨hn, hs⟩ := hp
  simp only at hn hs ht ⊢
  unfold ossuarylaw01_form.f partS partB
  have e1 := ref_Num_eq 99 n hn.1 hn.2 (by omega) (by omega)
  have e2 := ref_Int_eq 99 s hs (by omega) (by omega)
  have e3 : ossuaryref01_Text.f 99 t = some (numB t.size ++ bytesOf t) := by
    unfold ossuaryref01_Text.f
    have hl := numB_len (t.size : Int) 10 (by omega) (by omega)
    rw [wrap_u64, show (t.size : Int) % 18446744073709551616 = t.size by omega, ref_Num_eq 99 _ (by omega) (by omega) (by omega) (by omega)]
    simp only [Option.bind_some]
    rw [if_pos (by omega)]
  by_cases k1 : k = 1
  · subst k1; simp [ossuarylaw01_form.j0, e1]
  by_cases k5 : k = 5
  · subst k5; simp [ossuarylaw01_form.j0, e1]
  by_cases k2 : k = 2
  · subst k2; simp [ossuarylaw01_form.j0, e2]
  by_cases k3 : k = 3
  · subst k3; simp [ossuarylaw01_form.j0, e3]
  by_cases k4 : k = 4
  · subst k4; cases b <;> simp [ossuarylaw01_form.j0, ossuaryref01_Bool.f]
  simp [ossuarylaw01_form.j0, k1, k2, k3, k4, k5]
theorem partS_len (p : S52) (hp : okS p) (ht : p.f4.size ≤ 60) : (partS p).length ≤ 70 := by
  obtain ⟨k, m, n, s, t, b⟩ := p
  obtain ⟨hn, hs⟩ := hp
  simp only at hn hs ht
  unfold partS partB
  have h1 := numB_len n 10 (by omega) (by omega)
  have h2 := numB_len (zz s) 10 (by unfold zz; split <;> omega) (by omega)
  have h3 := numB_len (t.size : Int) 10 (by omega) (by omega)
  have h4 : (bytesOf t).length = t.size := bytesOf_length t
  simp only
  split
  · omega
  split
  · omega
  split
  · omega
  split
  · rw [List.length_append]; omega
  split
  · simp
  · simp
theorem putsB_len : ∀ (l : List S52), (∀ p ∈ l, okS p ∧ p.f4.size ≤ 60) → (putsB l).length ≤ 70 * l.length
  | [], _ => by simp [putsB]
  | p :: l, h => by
    have h1 := partS_len p (h p (by simp)).1 (h p (by simp)).2
    have h2 := putsB_len l (fun q hq => h q (by simp [hq]))
    unfold putsB at h2 ⊢
    simp only [List.flatMap_cons, List.length_append, List.length_cons]
    omega
theorem putsB_take (l : List S52) (i : Nat) (h : i < l.length) : putsB (l.take (i + 1)) = putsB (l.take i) ++ partS l[i] := by
  have e : l.take (i + 1) = l.take i ++ [l[i]] := by simp
  unfold putsB
  rw [e, List.flatMap_append]
  simp
end Go.Proofs.Ytjegkfdcelodeaa.Pol
