import Derived.Test.YtjegkfdcelodeaaWrT
import Derived.Test.YtjegkfdcelodeaaLw1
namespace Go.Proofs.Ytjegkfdcelodeaa.P
open Go.RowKit Go.Proofs.YtjegkfdcelodeaaW.PrintWords Go.Proofs.YtjegkfdcelodeaaW.PrintLast Go.Proofs.YtjegkfdcelodeaaW.PrintMore
attribute [local go_sem] max2_int min2_int max_two min_two max_three min_three max_four min_four
set_option linter.unusedVariables false
set_option linter.unusedSimpArgs false
namespace Wr
set_option maxHeartbeats 8000000 in
set_option maxRecDepth 100000 in
theorem WInt_nil.calls (n : Int) (w : World) :
    Calls Try.prog 31 #[.pointer none, .int .i64 n] w fun e w' => e = .returned (.pointer none) ∧ Below w.heap.size w w' := by
  go_enter Try.func31, Try.ntmps31
  go_wp2_with fail
  refine (Num_nil.calls _ w).mono ?_
  rintro e w' ⟨rfl, hb⟩
  have HB := Aside0.mk hb
  clear hb
  go_wp2
  go_ret
  exact ⟨rfl, HB.out⟩
set_option maxHeartbeats 8000000 in
set_option maxRecDepth 100000 in
theorem WText_nil.calls (s : ByteArray) (w : World) :
    Calls Try.prog 67 #[.pointer none, .string s] w fun e w' => e = .returned (.pointer none) ∧ Below w.heap.size w w' := by
  go_enter Try.func67, Try.ntmps67
  go_wp2_with fail
  refine (Num_nil.calls _ w).mono ?_
  rintro e w' ⟨rfl, hb⟩
  have HB := Aside0.mk hb
  clear hb
  go_wp2
  go_ret
  exact ⟨rfl, HB.out⟩
set_option maxHeartbeats 8000000 in
set_option maxRecDepth 100000 in
theorem WBool_nil.calls (b : Bool) (w : World) :
    Calls Try.prog 70 #[.pointer none, .bool b] w fun e w' => e = .returned (.pointer none) ∧ Below w.heap.size w w' := by
  cases b with
  | true =>
    go_enter Try.func70, Try.ntmps70
    go_wp2_with fail
    refine (Num_nil.calls _ w).mono ?_
    rintro e w' ⟨rfl, hb⟩
    have HB := Aside0.mk hb
    clear hb
    go_wp2
    go_ret
    exact ⟨rfl, HB.out⟩
  | false =>
    go_enter Try.func70, Try.ntmps70
    go_wp2_with fail
    refine (Num_nil.calls _ w).mono ?_
    rintro e w' ⟨rfl, hb⟩
    have HB := Aside0.mk hb
    clear hb
    go_wp2
    go_ret
    exact ⟨rfl, HB.out⟩
/-- The bytes of one thing that is put. -/
def partB (k m n s : Int) (t : ByteArray) (b : Bool) : List Int :=
  if k = 1 then numB n else if k = 5 then numB n else if k = 2 then numB (zz s) else if k = 3 then numB t.size ++ bytesOf t else if k = 4 then [if b then 1 else 0] else []
theorem WPost.from {B g : Nat} {v : Value} {l : List Int} {w0 w w1 w' : World} {e : Ending} (h : WPost B g v l w0 w1 e w') (hb : Below w.heap.size w w1) : WPost B g v l w0 w e w' := by
  obtain ⟨v', he, h1, h2, h3, h4⟩ := h
  refine ⟨v', he, h1, h2, (Far.below hb (fun k => k = g ∨ some k = v.ownBlock)).trans h3 (fun _ _ h => h), ?_⟩
  rcases h4 with h4 | ⟨b, h4, h5⟩
  · exact .inl h4
  · exact .inr ⟨b, h4, Nat.le_trans hb.size h5⟩
set_option maxHeartbeats 8000000 in
set_option maxRecDepth 100000 in
theorem put1.calls (B g : Nat) (v : Value) (l : List Int) (m n s : Int) (t : ByteArray) (b : Bool) (w0 w : World) (hn : 0 ≤ n ∧ n < 18446744073709551616) (hs : -9223372036854775808 ≤ s ∧ s < 9223372036854775808) (ht : t.size ≤ 1000) (hl : l.length ≤ 100000) (hB : Below B w0 w) (hg : B ≤ g) (hW : WrS B g v l w) :
    Calls Try.prog 35 #[.pointer (some ⟨g, 0, none⟩), .agg #[.int .i64 1, .int .i64 m, .int .u64 n, .int .i64 s, .string t, .bool b]] w (WPost B g v (l ++ partB 1 m n s t b) w0 w) := by
  have hgw : g < w.heap.size := blk_lt hW.blk
  have HB1 := Aside0.mk (show Below w.heap.size w (w.alloc (.cells #[.int .i64 1, .int .i64 m, .int .u64 n, .int .i64 s, .string t, .bool b] 52 (0, 0))) from (Below.refl _ w).alloc (Nat.le_refl _) _)
  have HW := Aside0.mk (show WrS B g v l (w.alloc (.cells #[.int .i64 1, .int .i64 m, .int .u64 n, .int .i64 s, .string t, .bool b] 52 (0, 0))) from hW.below HB1.out)
  have HB := Aside0.mk (show Below B w0 (w.alloc (.cells #[.int .i64 1, .int .i64 m, .int .u64 n, .int .i64 s, .string t, .bool b] 52 (0, 0))) from hB.alloc (by omega) _)
  have HK := Aside0.mk (show (w.alloc (.cells #[.int .i64 1, .int .i64 m, .int .u64 n, .int .i64 s, .string t, .bool b] 52 (0, 0))).heap[w.heap.size]? = some (.cells #[.int .i64 1, .int .i64 m, .int .u64 n, .int .i64 s, .string t, .bool b] 52 (0, 0)) from blk_new w _)
  clear hW hB
  have hc0 : (w.alloc (.cells #[.int .i64 1, .int .i64 m, .int .u64 n, .int .i64 s, .string t, .bool b] 52 (0, 0))).cell? ⟨w.heap.size, 0, none⟩ = some (.int .i64 1) := blk_cell HK.out 0
  have hc2 : (w.alloc (.cells #[.int .i64 1, .int .i64 m, .int .u64 n, .int .i64 s, .string t, .bool b] 52 (0, 0))).cell? ⟨w.heap.size, 2, none⟩ = some (.int .u64 n) := blk_cell HK.out 2
  have hc3 : (w.alloc (.cells #[.int .i64 1, .int .i64 m, .int .u64 n, .int .i64 s, .string t, .bool b] 52 (0, 0))).cell? ⟨w.heap.size, 3, none⟩ = some (.int .i64 s) := blk_cell HK.out 3
  have hc4 : (w.alloc (.cells #[.int .i64 1, .int .i64 m, .int .u64 n, .int .i64 s, .string t, .bool b] 52 (0, 0))).cell? ⟨w.heap.size, 4, none⟩ = some (.string t) := blk_cell HK.out 4
  have hc5 : (w.alloc (.cells #[.int .i64 1, .int .i64 m, .int .u64 n, .int .i64 s, .string t, .bool b] 52 (0, 0))).cell? ⟨w.heap.size, 5, none⟩ = some (.bool b) := blk_cell HK.out 5
  go_enter Try.func35, Try.ntmps35
  go_wp2_with fail
  refine (Writer_Num.calls B g v l n w0 _ hn.1 hn.2 (by omega) HB.out hg HW.out).mono ?_
  rintro e w' h
  have H := Aside0.mk h
  obtain ⟨v', rfl, _⟩ := h
  go_wp2
  go_ret
  exact (H.out.from HB1.out).done (by simp [partB]) rfl
set_option maxHeartbeats 8000000 in
set_option maxRecDepth 100000 in
theorem put5.calls (B g : Nat) (v : Value) (l : List Int) (m n s : Int) (t : ByteArray) (b : Bool) (w0 w : World) (hn : 0 ≤ n ∧ n < 18446744073709551616) (hs : -9223372036854775808 ≤ s ∧ s < 9223372036854775808) (ht : t.size ≤ 1000) (hl : l.length ≤ 100000) (hB : Below B w0 w) (hg : B ≤ g) (hW : WrS B g v l w) :
    Calls Try.prog 35 #[.pointer (some ⟨g, 0, none⟩), .agg #[.int .i64 5, .int .i64 m, .int .u64 n, .int .i64 s, .string t, .bool b]] w (WPost B g v (l ++ partB 5 m n s t b) w0 w) := by
  have hgw : g < w.heap.size := blk_lt hW.blk
  have HB1 := Aside0.mk (show Below w.heap.size w (w.alloc (.cells #[.int .i64 5, .int .i64 m, .int .u64 n, .int .i64 s, .string t, .bool b] 52 (0, 0))) from (Below.refl _ w).alloc (Nat.le_refl _) _)
  have HW := Aside0.mk (show WrS B g v l (w.alloc (.cells #[.int .i64 5, .int .i64 m, .int .u64 n, .int .i64 s, .string t, .bool b] 52 (0, 0))) from hW.below HB1.out)
  have HB := Aside0.mk (show Below B w0 (w.alloc (.cells #[.int .i64 5, .int .i64 m, .int .u64 n, .int .i64 s, .string t, .bool b] 52 (0, 0))) from hB.alloc (by omega) _)
  have HK := Aside0.mk (show (w.alloc (.cells #[.int .i64 5, .int .i64 m, .int .u64 n, .int .i64 s, .string t, .bool b] 52 (0, 0))).heap[w.heap.size]? = some (.cells #[.int .i64 5, .int .i64 m, .int .u64 n, .int .i64 s, .string t, .bool b] 52 (0, 0)) from blk_new w _)
  clear hW hB
  have hc0 : (w.alloc (.cells #[.int .i64 5, .int .i64 m, .int .u64 n, .int .i64 s, .string t, .bool b] 52 (0, 0))).cell? ⟨w.heap.size, 0, none⟩ = some (.int .i64 5) := blk_cell HK.out 0
  have hc2 : (w.alloc (.cells #[.int .i64 5, .int .i64 m, .int .u64 n, .int .i64 s, .string t, .bool b] 52 (0, 0))).cell? ⟨w.heap.size, 2, none⟩ = some (.int .u64 n) := blk_cell HK.out 2
  have hc3 : (w.alloc (.cells #[.int .i64 5, .int .i64 m, .int .u64 n, .int .i64 s, .string t, .bool b] 52 (0, 0))).cell? ⟨w.heap.size, 3, none⟩ = some (.int .i64 s) := blk_cell HK.out 3
  have hc4 : (w.alloc (.cells #[.int .i64 5, .int .i64 m, .int .u64 n, .int .i64 s, .string t, .bool b] 52 (0, 0))).cell? ⟨w.heap.size, 4, none⟩ = some (.string t) := blk_cell HK.out 4
  have hc5 : (w.alloc (.cells #[.int .i64 5, .int .i64 m, .int .u64 n, .int .i64 s, .string t, .bool b] 52 (0, 0))).cell? ⟨w.heap.size, 5, none⟩ = some (.bool b) := blk_cell HK.out 5
  go_enter Try.func35, Try.ntmps35
  go_wp2_with fail
  refine (Writer_Num.calls B g v l n w0 _ hn.1 hn.2 (by omega) HB.out hg HW.out).mono ?_
  rintro e w' h
  have H := Aside0.mk h
  obtain ⟨v', rfl, _⟩ := h
  go_wp2
  go_ret
  exact (H.out.from HB1.out).done (by simp [partB]) rfl
set_option maxHeartbeats 8000000 in
set_option maxRecDepth 100000 in
theorem put2.calls (B g : Nat) (v : Value) (l : List Int) (m n s : Int) (t : ByteArray) (b : Bool) (w0 w : World) (hn : 0 ≤ n ∧ n < 18446744073709551616) (hs : -9223372036854775808 ≤ s ∧ s < 9223372036854775808) (ht : t.size ≤ 1000) (hl : l.length ≤ 100000) (hB : Below B w0 w) (hg : B ≤ g) (hW : WrS B g v l w) :
    Calls Try.prog 35 #[.pointer (some ⟨g, 0, none⟩), .agg #[.int .i64 2, .int .i64 m, .int .u64 n, .int .i64 s, .string t, .bool b]] w (WPost B g v (l ++ partB 2 m n s t b) w0 w) := by
  have hgw : g < w.heap.size := blk_lt hW.blk
  have HB1 := Aside0.mk (show Below w.heap.size w (w.alloc (.cells #[.int .i64 2, .int .i64 m, .int .u64 n, .int .i64 s, .string t, .bool b] 52 (0, 0))) from (Below.refl _ w).alloc (Nat.le_refl _) _)
  have HW := Aside0.mk (show WrS B g v l (w.alloc (.cells #[.int .i64 2, .int .i64 m, .int .u64 n, .int .i64 s, .string t, .bool b] 52 (0, 0))) from hW.below HB1.out)
  have HB := Aside0.mk (show Below B w0 (w.alloc (.cells #[.int .i64 2, .int .i64 m, .int .u64 n, .int .i64 s, .string t, .bool b] 52 (0, 0))) from hB.alloc (by omega) _)
  have HK := Aside0.mk (show (w.alloc (.cells #[.int .i64 2, .int .i64 m, .int .u64 n, .int .i64 s, .string t, .bool b] 52 (0, 0))).heap[w.heap.size]? = some (.cells #[.int .i64 2, .int .i64 m, .int .u64 n, .int .i64 s, .string t, .bool b] 52 (0, 0)) from blk_new w _)
  clear hW hB
  have hc0 : (w.alloc (.cells #[.int .i64 2, .int .i64 m, .int .u64 n, .int .i64 s, .string t, .bool b] 52 (0, 0))).cell? ⟨w.heap.size, 0, none⟩ = some (.int .i64 2) := blk_cell HK.out 0
  have hc2 : (w.alloc (.cells #[.int .i64 2, .int .i64 m, .int .u64 n, .int .i64 s, .string t, .bool b] 52 (0, 0))).cell? ⟨w.heap.size, 2, none⟩ = some (.int .u64 n) := blk_cell HK.out 2
  have hc3 : (w.alloc (.cells #[.int .i64 2, .int .i64 m, .int .u64 n, .int .i64 s, .string t, .bool b] 52 (0, 0))).cell? ⟨w.heap.size, 3, none⟩ = some (.int .i64 s) := blk_cell HK.out 3
  have hc4 : (w.alloc (.cells #[.int .i64 2, .int .i64 m, .int .u64 n, .int .i64 s, .string t, .bool b] 52 (0, 0))).cell? ⟨w.heap.size, 4, none⟩ = some (.string t) := blk_cell HK.out 4
  have hc5 : (w.alloc (.cells #[.int .i64 2, .int .i64 m, .int .u64 n, .int .i64 s, .string t, .bool b] 52 (0, 0))).cell? ⟨w.heap.size, 5, none⟩ = some (.bool b) := blk_cell HK.out 5
  go_enter Try.func35, Try.ntmps35
  go_wp2_with fail
  refine (Writer_Int.calls B g v l s w0 _ hs.1 hs.2 (by omega) HB.out hg HW.out).mono ?_
  rintro e w' h
  have H := Aside0.mk h
  obtain ⟨v', rfl, _⟩ := h
  go_wp2
  go_ret
  exact (H.out.from HB1.out).done (by simp [partB]) rfl
set_option maxHeartbeats 8000000 in
set_option maxRecDepth 100000 in
theorem put3.calls (B g : Nat) (v : Value) (l : List Int) (m n s : Int) (t : ByteArray) (b : Bool) (w0 w : World) (hn : 0 ≤ n ∧ n < 18446744073709551616) (hs : -9223372036854775808 ≤ s ∧ s < 9223372036854775808) (ht : t.size ≤ 1000) (hl : l.length ≤ 100000) (hB : Below B w0 w) (hg : B ≤ g) (hW : WrS B g v l w) :
    Calls Try.prog 35 #[.pointer (some ⟨g, 0, none⟩), .agg #[.int .i64 3, .int .i64 m, .int .u64 n, .int .i64 s, .string t, .bool b]] w (WPost B g v (l ++ partB 3 m n s t b) w0 w) := by
  have hgw : g < w.heap.size := blk_lt hW.blk
  have HB1 := Aside0.mk (show Below w.heap.size w (w.alloc (.cells #[.int .i64 3, .int .i64 m, .int .u64 n, .int .i64 s, .string t, .bool b] 52 (0, 0))) from (Below.refl _ w).alloc (Nat.le_refl _) _)
  have HW := Aside0.mk (show WrS B g v l (w.alloc (.cells #[.int .i64 3, .int .i64 m, .int .u64 n, .int .i64 s, .string t, .bool b] 52 (0, 0))) from hW.below HB1.out)
  have HB := Aside0.mk (show Below B w0 (w.alloc (.cells #[.int .i64 3, .int .i64 m, .int .u64 n, .int .i64 s, .string t, .bool b] 52 (0, 0))) from hB.alloc (by omega) _)
  have HK := Aside0.mk (show (w.alloc (.cells #[.int .i64 3, .int .i64 m, .int .u64 n, .int .i64 s, .string t, .bool b] 52 (0, 0))).heap[w.heap.size]? = some (.cells #[.int .i64 3, .int .i64 m, .int .u64 n, .int .i64 s, .string t, .bool b] 52 (0, 0)) from blk_new w _)
  clear hW hB
  have hc0 : (w.alloc (.cells #[.int .i64 3, .int .i64 m, .int .u64 n, .int .i64 s, .string t, .bool b] 52 (0, 0))).cell? ⟨w.heap.size, 0, none⟩ = some (.int .i64 3) := blk_cell HK.out 0
  have hc2 : (w.alloc (.cells #[.int .i64 3, .int .i64 m, .int .u64 n, .int .i64 s, .string t, .bool b] 52 (0, 0))).cell? ⟨w.heap.size, 2, none⟩ = some (.int .u64 n) := blk_cell HK.out 2
  have hc3 : (w.alloc (.cells #[.int .i64 3, .int .i64 m, .int .u64 n, .int .i64 s, .string t, .bool b] 52 (0, 0))).cell? ⟨w.heap.size, 3, none⟩ = some (.int .i64 s) := blk_cell HK.out 3
  have hc4 : (w.alloc (.cells #[.int .i64 3, .int .i64 m, .int .u64 n, .int .i64 s, .string t, .bool b] 52 (0, 0))).cell? ⟨w.heap.size, 4, none⟩ = some (.string t) := blk_cell HK.out 4
  have hc5 : (w.alloc (.cells #[.int .i64 3, .int .i64 m, .int .u64 n, .int .i64 s, .string t, .bool b] 52 (0, 0))).cell? ⟨w.heap.size, 5, none⟩ = some (.bool b) := blk_cell HK.out 5
  go_enter Try.func35, Try.ntmps35
  go_wp2_with fail
  refine (Writer_Text.calls B g v l t w0 _ (by omega) (by omega) HB.out hg HW.out).mono ?_
  rintro e w' h
  have H := Aside0.mk h
  obtain ⟨v', rfl, _⟩ := h
  go_wp2
  go_ret
  exact (H.out.from HB1.out).done (by simp [partB]) rfl
set_option maxHeartbeats 8000000 in
set_option maxRecDepth 100000 in
theorem put4.calls (B g : Nat) (v : Value) (l : List Int) (m n s : Int) (t : ByteArray) (b : Bool) (w0 w : World) (hn : 0 ≤ n ∧ n < 18446744073709551616) (hs : -9223372036854775808 ≤ s ∧ s < 9223372036854775808) (ht : t.size ≤ 1000) (hl : l.length ≤ 100000) (hB : Below B w0 w) (hg : B ≤ g) (hW : WrS B g v l w) :
    Calls Try.prog 35 #[.pointer (some ⟨g, 0, none⟩), .agg #[.int .i64 4, .int .i64 m, .int .u64 n, .int .i64 s, .string t, .bool b]] w (WPost B g v (l ++ partB 4 m n s t b) w0 w) := by
  have hgw : g < w.heap.size := blk_lt hW.blk
  have HB1 := Aside0.mk (show Below w.heap.size w (w.alloc (.cells #[.int .i64 4, .int .i64 m, .int .u64 n, .int .i64 s, .string t, .bool b] 52 (0, 0))) from (Below.refl _ w).alloc (Nat.le_refl _) _)
  have HW := Aside0.mk (show WrS B g v l (w.alloc (.cells #[.int .i64 4, .int .i64 m, .int .u64 n, .int .i64 s, .string t, .bool b] 52 (0, 0))) from hW.below HB1.out)
  have HB := Aside0.mk (show Below B w0 (w.alloc (.cells #[.int .i64 4, .int .i64 m, .int .u64 n, .int .i64 s, .string t, .bool b] 52 (0, 0))) from hB.alloc (by omega) _)
  have HK := Aside0.mk (show (w.alloc (.cells #[.int .i64 4, .int .i64 m, .int .u64 n, .int .i64 s, .string t, .bool b] 52 (0, 0))).heap[w.heap.size]? = some (.cells #[.int .i64 4, .int .i64 m, .int .u64 n, .int .i64 s, .string t, .bool b] 52 (0, 0)) from blk_new w _)
  clear hW hB
  have hc0 : (w.alloc (.cells #[.int .i64 4, .int .i64 m, .int .u64 n, .int .i64 s, .string t, .bool b] 52 (0, 0))).cell? ⟨w.heap.size, 0, none⟩ = some (.int .i64 4) := blk_cell HK.out 0
  have hc2 : (w.alloc (.cells #[.int .i64 4, .int .i64 m, .int .u64 n, .int .i64 s, .string t, .bool b] 52 (0, 0))).cell? ⟨w.heap.size, 2, none⟩ = some (.int .u64 n) := blk_cell HK.out 2
  have hc3 : (w.alloc (.cells #[.int .i64 4, .int .i64 m, .int .u64 n, .int .i64 s, .string t, .bool b] 52 (0, 0))).cell? ⟨w.heap.size, 3, none⟩ = some (.int .i64 s) := blk_cell HK.out 3
  have hc4 : (w.alloc (.cells #[.int .i64 4, .int .i64 m, .int .u64 n, .int .i64 s, .string t, .bool b] 52 (0, 0))).cell? ⟨w.heap.size, 4, none⟩ = some (.string t) := blk_cell HK.out 4
  have hc5 : (w.alloc (.cells #[.int .i64 4, .int .i64 m, .int .u64 n, .int .i64 s, .string t, .bool b] 52 (0, 0))).cell? ⟨w.heap.size, 5, none⟩ = some (.bool b) := blk_cell HK.out 5
  go_enter Try.func35, Try.ntmps35
  go_wp2_with fail
  refine (Writer_Bool.calls B g v l b w0 _ (by omega) HB.out hg HW.out).mono ?_
  rintro e w' h
  have H := Aside0.mk h
  obtain ⟨v', rfl, _⟩ := h
  go_wp2
  go_ret
  exact (H.out.from HB1.out).done (by simp [partB]) rfl
set_option maxHeartbeats 8000000 in
set_option maxRecDepth 100000 in
theorem put0.calls (B g : Nat) (v : Value) (l : List Int) (k : Int) (m n s : Int) (t : ByteArray) (b : Bool) (w0 w : World) (h1 : k ≠ 1) (h5 : k ≠ 5) (h2 : k ≠ 2) (h3 : k ≠ 3) (h4 : k ≠ 4) (hn : 0 ≤ n ∧ n < 18446744073709551616) (hs : -9223372036854775808 ≤ s ∧ s < 9223372036854775808) (ht : t.size ≤ 1000) (hl : l.length ≤ 100000) (hB : Below B w0 w) (hg : B ≤ g) (hW : WrS B g v l w) :
    Calls Try.prog 35 #[.pointer (some ⟨g, 0, none⟩), .agg #[.int .i64 k, .int .i64 m, .int .u64 n, .int .i64 s, .string t, .bool b]] w (WPost B g v (l ++ partB k m n s t b) w0 w) := by
  have hgw : g < w.heap.size := blk_lt hW.blk
  have HB1 := Aside0.mk (show Below w.heap.size w (w.alloc (.cells #[.int .i64 k, .int .i64 m, .int .u64 n, .int .i64 s, .string t, .bool b] 52 (0, 0))) from (Below.refl _ w).alloc (Nat.le_refl _) _)
  have HW := Aside0.mk (show WrS B g v l (w.alloc (.cells #[.int .i64 k, .int .i64 m, .int .u64 n, .int .i64 s, .string t, .bool b] 52 (0, 0))) from hW.below HB1.out)
  have HB := Aside0.mk (show Below B w0 (w.alloc (.cells #[.int .i64 k, .int .i64 m, .int .u64 n, .int .i64 s, .string t, .bool b] 52 (0, 0))) from hB.alloc (by omega) _)
  have HK := Aside0.mk (show (w.alloc (.cells #[.int .i64 k, .int .i64 m, .int .u64 n, .int .i64 s, .string t, .bool b] 52 (0, 0))).heap[w.heap.size]? = some (.cells #[.int .i64 k, .int .i64 m, .int .u64 n, .int .i64 s, .string t, .bool b] 52 (0, 0)) from blk_new w _)
  clear hW hB
  have hc0 : (w.alloc (.cells #[.int .i64 k, .int .i64 m, .int .u64 n, .int .i64 s, .string t, .bool b] 52 (0, 0))).cell? ⟨w.heap.size, 0, none⟩ = some (.int .i64 k) := blk_cell HK.out 0
  have hc2 : (w.alloc (.cells #[.int .i64 k, .int .i64 m, .int .u64 n, .int .i64 s, .string t, .bool b] 52 (0, 0))).cell? ⟨w.heap.size, 2, none⟩ = some (.int .u64 n) := blk_cell HK.out 2
  have hc3 : (w.alloc (.cells #[.int .i64 k, .int .i64 m, .int .u64 n, .int .i64 s, .string t, .bool b] 52 (0, 0))).cell? ⟨w.heap.size, 3, none⟩ = some (.int .i64 s) := blk_cell HK.out 3
  have hc4 : (w.alloc (.cells #[.int .i64 k, .int .i64 m, .int .u64 n, .int .i64 s, .string t, .bool b] 52 (0, 0))).cell? ⟨w.heap.size, 4, none⟩ = some (.string t) := blk_cell HK.out 4
  have hc5 : (w.alloc (.cells #[.int .i64 k, .int .i64 m, .int .u64 n, .int .i64 s, .string t, .bool b] 52 (0, 0))).cell? ⟨w.heap.size, 5, none⟩ = some (.bool b) := blk_cell HK.out 5
  go_enter Try.func35, Try.ntmps35
  have e1 : (k == 1) = false := beq_eq_false_iff_ne.mpr h1
  have e5 : (k == 5) = false := beq_eq_false_iff_ne.mpr h5
  have e2 : (k == 2) = false := beq_eq_false_iff_ne.mpr h2
  have e3 : (k == 3) = false := beq_eq_false_iff_ne.mpr h3
  have e4 : (k == 4) = false := beq_eq_false_iff_ne.mpr h4
  have hp : partB k m n s t b = [] := by simp [partB, h1, h2, h3, h4, h5]
  have HP := Aside0.mk hp
  clear h1 h2 h3 h4 h5 hp
  go_wp2
  go_ret
  rw [HP.out, List.append_nil]
  exact ⟨v, rfl, HW.out, HB.out, Far.below HB1.out _, .inl rfl⟩
theorem put.calls (B g : Nat) (v : Value) (l : List Int) (k m n s : Int) (t : ByteArray) (b : Bool) (w0 w : World) (hn : 0 ≤ n ∧ n < 18446744073709551616) (hs : -9223372036854775808 ≤ s ∧ s < 9223372036854775808) (ht : t.size ≤ 1000) (hl : l.length ≤ 100000) (hB : Below B w0 w) (hg : B ≤ g) (hW : WrS B g v l w) :
    Calls Try.prog 35 #[.pointer (some ⟨g, 0, none⟩), .agg #[.int .i64 k, .int .i64 m, .int .u64 n, .int .i64 s, .string t, .bool b]] w (WPost B g v (l ++ partB k m n s t b) w0 w) := by
  by_cases h1 : k = 1
  · subst h1; exact put1.calls B g v l m n s t b w0 w hn hs ht hl hB hg hW
  by_cases h5 : k = 5
  · subst h5; exact put5.calls B g v l m n s t b w0 w hn hs ht hl hB hg hW
  by_cases h2 : k = 2
  · subst h2; exact put2.calls B g v l m n s t b w0 w hn hs ht hl hB hg hW
  by_cases h3 : k = 3
  · subst h3; exact put3.calls B g v l m n s t b w0 w hn hs ht hl hB hg hW
  by_cases h4 : k = 4
  · subst h4; exact put4.calls B g v l m n s t b w0 w hn hs ht hl hB hg hW
  exact put0.calls B g v l k m n s t b w0 w h1 h5 h2 h3 h4 hn hs ht hl hB hg hW
set_option maxHeartbeats 8000000 in
set_option maxRecDepth 100000 in
theorem putn1.calls (m n s : Int) (t : ByteArray) (b : Bool) (w : World) :
    Calls Try.prog 35 #[.pointer none, .agg #[.int .i64 1, .int .i64 m, .int .u64 n, .int .i64 s, .string t, .bool b]] w fun e w' => e = .returned (.pointer none) ∧ Below w.heap.size w w' := by
  have HB1 := Aside0.mk (show Below w.heap.size w (w.alloc (.cells #[.int .i64 1, .int .i64 m, .int .u64 n, .int .i64 s, .string t, .bool b] 52 (0, 0))) from (Below.refl _ w).alloc (Nat.le_refl _) _)
  have HK := Aside0.mk (show (w.alloc (.cells #[.int .i64 1, .int .i64 m, .int .u64 n, .int .i64 s, .string t, .bool b] 52 (0, 0))).heap[w.heap.size]? = some (.cells #[.int .i64 1, .int .i64 m, .int .u64 n, .int .i64 s, .string t, .bool b] 52 (0, 0)) from blk_new w _)
  have hc0 : (w.alloc (.cells #[.int .i64 1, .int .i64 m, .int .u64 n, .int .i64 s, .string t, .bool b] 52 (0, 0))).cell? ⟨w.heap.size, 0, none⟩ = some (.int .i64 1) := blk_cell HK.out 0
  have hc2 : (w.alloc (.cells #[.int .i64 1, .int .i64 m, .int .u64 n, .int .i64 s, .string t, .bool b] 52 (0, 0))).cell? ⟨w.heap.size, 2, none⟩ = some (.int .u64 n) := blk_cell HK.out 2
  have hc3 : (w.alloc (.cells #[.int .i64 1, .int .i64 m, .int .u64 n, .int .i64 s, .string t, .bool b] 52 (0, 0))).cell? ⟨w.heap.size, 3, none⟩ = some (.int .i64 s) := blk_cell HK.out 3
  have hc4 : (w.alloc (.cells #[.int .i64 1, .int .i64 m, .int .u64 n, .int .i64 s, .string t, .bool b] 52 (0, 0))).cell? ⟨w.heap.size, 4, none⟩ = some (.string t) := blk_cell HK.out 4
  have hc5 : (w.alloc (.cells #[.int .i64 1, .int .i64 m, .int .u64 n, .int .i64 s, .string t, .bool b] 52 (0, 0))).cell? ⟨w.heap.size, 5, none⟩ = some (.bool b) := blk_cell HK.out 5
  go_enter Try.func35, Try.ntmps35
  go_wp2_with fail
  refine (Num_nil.calls n _).mono ?_
  rintro e w' ⟨rfl, hb⟩
  have H := Aside0.mk (below_step HB1.out hb)
  clear hb
  go_wp2
  go_ret
  exact ⟨rfl, H.out⟩
set_option maxHeartbeats 8000000 in
set_option maxRecDepth 100000 in
theorem putn5.calls (m n s : Int) (t : ByteArray) (b : Bool) (w : World) :
    Calls Try.prog 35 #[.pointer none, .agg #[.int .i64 5, .int .i64 m, .int .u64 n, .int .i64 s, .string t, .bool b]] w fun e w' => e = .returned (.pointer none) ∧ Below w.heap.size w w' := by
  have HB1 := Aside0.mk (show Below w.heap.size w (w.alloc (.cells #[.int .i64 5, .int .i64 m, .int .u64 n, .int .i64 s, .string t, .bool b] 52 (0, 0))) from (Below.refl _ w).alloc (Nat.le_refl _) _)
  have HK := Aside0.mk (show (w.alloc (.cells #[.int .i64 5, .int .i64 m, .int .u64 n, .int .i64 s, .string t, .bool b] 52 (0, 0))).heap[w.heap.size]? = some (.cells #[.int .i64 5, .int .i64 m, .int .u64 n, .int .i64 s, .string t, .bool b] 52 (0, 0)) from blk_new w _)
  have hc0 : (w.alloc (.cells #[.int .i64 5, .int .i64 m, .int .u64 n, .int .i64 s, .string t, .bool b] 52 (0, 0))).cell? ⟨w.heap.size, 0, none⟩ = some (.int .i64 5) := blk_cell HK.out 0
  have hc2 : (w.alloc (.cells #[.int .i64 5, .int .i64 m, .int .u64 n, .int .i64 s, .string t, .bool b] 52 (0, 0))).cell? ⟨w.heap.size, 2, none⟩ = some (.int .u64 n) := blk_cell HK.out 2
  have hc3 : (w.alloc (.cells #[.int .i64 5, .int .i64 m, .int .u64 n, .int .i64 s, .string t, .bool b] 52 (0, 0))).cell? ⟨w.heap.size, 3, none⟩ = some (.int .i64 s) := blk_cell HK.out 3
  have hc4 : (w.alloc (.cells #[.int .i64 5, .int .i64 m, .int .u64 n, .int .i64 s, .string t, .bool b] 52 (0, 0))).cell? ⟨w.heap.size, 4, none⟩ = some (.string t) := blk_cell HK.out 4
  have hc5 : (w.alloc (.cells #[.int .i64 5, .int .i64 m, .int .u64 n, .int .i64 s, .string t, .bool b] 52 (0, 0))).cell? ⟨w.heap.size, 5, none⟩ = some (.bool b) := blk_cell HK.out 5
  go_enter Try.func35, Try.ntmps35
  go_wp2_with fail
  refine (Num_nil.calls n _).mono ?_
  rintro e w' ⟨rfl, hb⟩
  have H := Aside0.mk (below_step HB1.out hb)
  clear hb
  go_wp2
  go_ret
  exact ⟨rfl, H.out⟩
set_option maxHeartbeats 8000000 in
set_option maxRecDepth 100000 in
theorem putn2.calls (m n s : Int) (t : ByteArray) (b : Bool) (w : World) :
    Calls Try.prog 35 #[.pointer none, .agg #[.int .i64 2, .int .i64 m, .int .u64 n, .int .i64 s, .string t, .bool b]] w fun e w' => e = .returned (.pointer none) ∧ Below w.heap.size w w' := by
  have HB1 := Aside0.mk (show Below w.heap.size w (w.alloc (.cells #[.int .i64 2, .int .i64 m, .int .u64 n, .int .i64 s, .string t, .bool b] 52 (0, 0))) from (Below.refl _ w).alloc (Nat.le_refl _) _)
  have HK := Aside0.mk (show (w.alloc (.cells #[.int .i64 2, .int .i64 m, .int .u64 n, .int .i64 s, .string t, .bool b] 52 (0, 0))).heap[w.heap.size]? = some (.cells #[.int .i64 2, .int .i64 m, .int .u64 n, .int .i64 s, .string t, .bool b] 52 (0, 0)) from blk_new w _)
  have hc0 : (w.alloc (.cells #[.int .i64 2, .int .i64 m, .int .u64 n, .int .i64 s, .string t, .bool b] 52 (0, 0))).cell? ⟨w.heap.size, 0, none⟩ = some (.int .i64 2) := blk_cell HK.out 0
  have hc2 : (w.alloc (.cells #[.int .i64 2, .int .i64 m, .int .u64 n, .int .i64 s, .string t, .bool b] 52 (0, 0))).cell? ⟨w.heap.size, 2, none⟩ = some (.int .u64 n) := blk_cell HK.out 2
  have hc3 : (w.alloc (.cells #[.int .i64 2, .int .i64 m, .int .u64 n, .int .i64 s, .string t, .bool b] 52 (0, 0))).cell? ⟨w.heap.size, 3, none⟩ = some (.int .i64 s) := blk_cell HK.out 3
  have hc4 : (w.alloc (.cells #[.int .i64 2, .int .i64 m, .int .u64 n, .int .i64 s, .string t, .bool b] 52 (0, 0))).cell? ⟨w.heap.size, 4, none⟩ = some (.string t) := blk_cell HK.out 4
  have hc5 : (w.alloc (.cells #[.int .i64 2, .int .i64 m, .int .u64 n, .int .i64 s, .string t, .bool b] 52 (0, 0))).cell? ⟨w.heap.size, 5, none⟩ = some (.bool b) := blk_cell HK.out 5
  go_enter Try.func35, Try.ntmps35
  go_wp2_with fail
  refine (WInt_nil.calls s _).mono ?_
  rintro e w' ⟨rfl, hb⟩
  have H := Aside0.mk (below_step HB1.out hb)
  clear hb
  go_wp2
  go_ret
  exact ⟨rfl, H.out⟩
set_option maxHeartbeats 8000000 in
set_option maxRecDepth 100000 in
theorem putn3.calls (m n s : Int) (t : ByteArray) (b : Bool) (w : World) :
    Calls Try.prog 35 #[.pointer none, .agg #[.int .i64 3, .int .i64 m, .int .u64 n, .int .i64 s, .string t, .bool b]] w fun e w' => e = .returned (.pointer none) ∧ Below w.heap.size w w' := by
  have HB1 := Aside0.mk (show Below w.heap.size w (w.alloc (.cells #[.int .i64 3, .int .i64 m, .int .u64 n, .int .i64 s, .string t, .bool b] 52 (0, 0))) from (Below.refl _ w).alloc (Nat.le_refl _) _)
  have HK := Aside0.mk (show (w.alloc (.cells #[.int .i64 3, .int .i64 m, .int .u64 n, .int .i64 s, .string t, .bool b] 52 (0, 0))).heap[w.heap.size]? = some (.cells #[.int .i64 3, .int .i64 m, .int .u64 n, .int .i64 s, .string t, .bool b] 52 (0, 0)) from blk_new w _)
  have hc0 : (w.alloc (.cells #[.int .i64 3, .int .i64 m, .int .u64 n, .int .i64 s, .string t, .bool b] 52 (0, 0))).cell? ⟨w.heap.size, 0, none⟩ = some (.int .i64 3) := blk_cell HK.out 0
  have hc2 : (w.alloc (.cells #[.int .i64 3, .int .i64 m, .int .u64 n, .int .i64 s, .string t, .bool b] 52 (0, 0))).cell? ⟨w.heap.size, 2, none⟩ = some (.int .u64 n) := blk_cell HK.out 2
  have hc3 : (w.alloc (.cells #[.int .i64 3, .int .i64 m, .int .u64 n, .int .i64 s, .string t, .bool b] 52 (0, 0))).cell? ⟨w.heap.size, 3, none⟩ = some (.int .i64 s) := blk_cell HK.out 3
  have hc4 : (w.alloc (.cells #[.int .i64 3, .int .i64 m, .int .u64 n, .int .i64 s, .string t, .bool b] 52 (0, 0))).cell? ⟨w.heap.size, 4, none⟩ = some (.string t) := blk_cell HK.out 4
  have hc5 : (w.alloc (.cells #[.int .i64 3, .int .i64 m, .int .u64 n, .int .i64 s, .string t, .bool b] 52 (0, 0))).cell? ⟨w.heap.size, 5, none⟩ = some (.bool b) := blk_cell HK.out 5
  go_enter Try.func35, Try.ntmps35
  go_wp2_with fail
  refine (WText_nil.calls t _).mono ?_
  rintro e w' ⟨rfl, hb⟩
  have H := Aside0.mk (below_step HB1.out hb)
  clear hb
  go_wp2
  go_ret
  exact ⟨rfl, H.out⟩
set_option maxHeartbeats 8000000 in
set_option maxRecDepth 100000 in
theorem putn4.calls (m n s : Int) (t : ByteArray) (b : Bool) (w : World) :
    Calls Try.prog 35 #[.pointer none, .agg #[.int .i64 4, .int .i64 m, .int .u64 n, .int .i64 s, .string t, .bool b]] w fun e w' => e = .returned (.pointer none) ∧ Below w.heap.size w w' := by
  have HB1 := Aside0.mk (show Below w.heap.size w (w.alloc (.cells #[.int .i64 4, .int .i64 m, .int .u64 n, .int .i64 s, .string t, .bool b] 52 (0, 0))) from (Below.refl _ w).alloc (Nat.le_refl _) _)
  have HK := Aside0.mk (show (w.alloc (.cells #[.int .i64 4, .int .i64 m, .int .u64 n, .int .i64 s, .string t, .bool b] 52 (0, 0))).heap[w.heap.size]? = some (.cells #[.int .i64 4, .int .i64 m, .int .u64 n, .int .i64 s, .string t, .bool b] 52 (0, 0)) from blk_new w _)
  have hc0 : (w.alloc (.cells #[.int .i64 4, .int .i64 m, .int .u64 n, .int .i64 s, .string t, .bool b] 52 (0, 0))).cell? ⟨w.heap.size, 0, none⟩ = some (.int .i64 4) := blk_cell HK.out 0
  have hc2 : (w.alloc (.cells #[.int .i64 4, .int .i64 m, .int .u64 n, .int .i64 s, .string t, .bool b] 52 (0, 0))).cell? ⟨w.heap.size, 2, none⟩ = some (.int .u64 n) := blk_cell HK.out 2
  have hc3 : (w.alloc (.cells #[.int .i64 4, .int .i64 m, .int .u64 n, .int .i64 s, .string t, .bool b] 52 (0, 0))).cell? ⟨w.heap.size, 3, none⟩ = some (.int .i64 s) := blk_cell HK.out 3
  have hc4 : (w.alloc (.cells #[.int .i64 4, .int .i64 m, .int .u64 n, .int .i64 s, .string t, .bool b] 52 (0, 0))).cell? ⟨w.heap.size, 4, none⟩ = some (.string t) := blk_cell HK.out 4
  have hc5 : (w.alloc (.cells #[.int .i64 4, .int .i64 m, .int .u64 n, .int .i64 s, .string t, .bool b] 52 (0, 0))).cell? ⟨w.heap.size, 5, none⟩ = some (.bool b) := blk_cell HK.out 5
  go_enter Try.func35, Try.ntmps35
  go_wp2_with fail
  refine (WBool_nil.calls b _).mono ?_
  rintro e w' ⟨rfl, hb⟩
  have H := Aside0.mk (below_step HB1.out hb)
  clear hb
  go_wp2
  go_ret
  exact ⟨rfl, H.out⟩
set_option maxHeartbeats 8000000 in
set_option maxRecDepth 100000 in
theorem putn0.calls (k : Int) (m n s : Int) (t : ByteArray) (b : Bool) (w : World) (h1 : k ≠ 1) (h5 : k ≠ 5) (h2 : k ≠ 2) (h3 : k ≠ 3) (h4 : k ≠ 4) :
    Calls Try.prog 35 #[.pointer none, .agg #[.int .i64 k, .int .i64 m, .int .u64 n, .int .i64 s, .string t, .bool b]] w fun e w' => e = .returned (.pointer none) ∧ Below w.heap.size w w' := by
  have HB1 := Aside0.mk (show Below w.heap.size w (w.alloc (.cells #[.int .i64 k, .int .i64 m, .int .u64 n, .int .i64 s, .string t, .bool b] 52 (0, 0))) from (Below.refl _ w).alloc (Nat.le_refl _) _)
  have HK := Aside0.mk (show (w.alloc (.cells #[.int .i64 k, .int .i64 m, .int .u64 n, .int .i64 s, .string t, .bool b] 52 (0, 0))).heap[w.heap.size]? = some (.cells #[.int .i64 k, .int .i64 m, .int .u64 n, .int .i64 s, .string t, .bool b] 52 (0, 0)) from blk_new w _)
  have hc0 : (w.alloc (.cells #[.int .i64 k, .int .i64 m, .int .u64 n, .int .i64 s, .string t, .bool b] 52 (0, 0))).cell? ⟨w.heap.size, 0, none⟩ = some (.int .i64 k) := blk_cell HK.out 0
  have hc2 : (w.alloc (.cells #[.int .i64 k, .int .i64 m, .int .u64 n, .int .i64 s, .string t, .bool b] 52 (0, 0))).cell? ⟨w.heap.size, 2, none⟩ = some (.int .u64 n) := blk_cell HK.out 2
  have hc3 : (w.alloc (.cells #[.int .i64 k, .int .i64 m, .int .u64 n, .int .i64 s, .string t, .bool b] 52 (0, 0))).cell? ⟨w.heap.size, 3, none⟩ = some (.int .i64 s) := blk_cell HK.out 3
  have hc4 : (w.alloc (.cells #[.int .i64 k, .int .i64 m, .int .u64 n, .int .i64 s, .string t, .bool b] 52 (0, 0))).cell? ⟨w.heap.size, 4, none⟩ = some (.string t) := blk_cell HK.out 4
  have hc5 : (w.alloc (.cells #[.int .i64 k, .int .i64 m, .int .u64 n, .int .i64 s, .string t, .bool b] 52 (0, 0))).cell? ⟨w.heap.size, 5, none⟩ = some (.bool b) := blk_cell HK.out 5
  go_enter Try.func35, Try.ntmps35
  have e1 : (k == 1) = false := beq_eq_false_iff_ne.mpr h1
  have e5 : (k == 5) = false := beq_eq_false_iff_ne.mpr h5
  have e2 : (k == 2) = false := beq_eq_false_iff_ne.mpr h2
  have e3 : (k == 3) = false := beq_eq_false_iff_ne.mpr h3
  have e4 : (k == 4) = false := beq_eq_false_iff_ne.mpr h4
  clear h1 h2 h3 h4 h5
  go_wp2
  go_ret
  exact ⟨rfl, HB1.out⟩
theorem put_nil.calls (k m n s : Int) (t : ByteArray) (b : Bool) (w : World) :
    Calls Try.prog 35 #[.pointer none, .agg #[.int .i64 k, .int .i64 m, .int .u64 n, .int .i64 s, .string t, .bool b]] w fun e w' => e = .returned (.pointer none) ∧ Below w.heap.size w w' := by
  by_cases h1 : k = 1
  · subst h1; exact putn1.calls m n s t b w
  by_cases h5 : k = 5
  · subst h5; exact putn5.calls m n s t b w
  by_cases h2 : k = 2
  · subst h2; exact putn2.calls m n s t b w
  by_cases h3 : k = 3
  · subst h3; exact putn3.calls m n s t b w
  by_cases h4 : k = 4
  · subst h4; exact putn4.calls m n s t b w
  exact putn0.calls k m n s t b w h1 h5 h2 h3 h4
end Wr
end Go.Proofs.Ytjegkfdcelodeaa.P
