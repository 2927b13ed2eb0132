import Derived.Test.YtjegkfdcelodeaaAs3
namespace Go.Proofs.Ytjegkfdcelodeaa.P
open Go.RowKit Go.Proofs.YtjegkfdcelodeaaW.PrintWords Go.Proofs.YtjegkfdcelodeaaW.PrintLast Go.Proofs.YtjegkfdcelodeaaW.PrintMore
attribute [local go_sem] max2_int min2_int max_two min_two max_three min_three max_four min_four
set_option linter.unusedVariables false
set_option linter.unusedSimpArgs false
namespace As
open Wr
theorem WrS.below' {B g : Nat} {v : Value} {l : List Int} {w w' : World} (h : WrS B g v l w) (hb : Below w.heap.size w w') : WrS B g v l w' := ⟨blk_below h.blk hb, Kd.R_below h.row hb⟩
/-- The bytes of one dimension. -/
def dimB (q : Qy) (i : Nat) : List Int := [if q.G i then 1 else 0] ++ [if q.H i then 1 else 0] ++ (if q.H i then numB (q.T i).size ++ bytesOf (q.T i) else [])
def dimsB (q : Qy) : Nat → List Int
  | 0 => []
  | i + 1 => dimsB q i ++ dimB q i
def encB (q : Qy) (i : Nat) : List Int := numB q.a ++ numB q.b ++ dimsB q i
def encV (q : Qy) (dims : Int) : List Int := if chkQ q dims = 0 then encB q dims.toNat else []
structure okQ (q : Qy) (dims : Int) : Prop where
  d : 1 ≤ dims ∧ dims ≤ 4
  a : 0 ≤ q.a
  ab : q.a ≤ q.b
  b : q.b ≤ 16777217
  bad : ∀ i, i < 4 → badQ q dims i = false
theorem chk_ok {q : Qy} {dims : Int} (h : chkQ q dims = 0) : okQ q dims := by
  unfold chkQ at h
  split at h
  · omega
  · rename_i c1
    split at h
    · omega
    · rename_i c2
      split at h
      · omega
      · rename_i c3
        refine ⟨by omega, by omega, by omega, by omega, fun i hi => ?_⟩
        cases e : badQ q dims i with
        | false => rfl
        | true => exact absurd (List.any_eq_true.2 ⟨i, List.mem_range.2 hi, e⟩) c3
theorem okQ.size {q : Qy} {dims : Int} (h : okQ q dims) {i : Nat} (hi : i < 4) : (q.T i).size ≤ 16 := by
  have := h.bad i hi
  simp [badQ] at this
  omega
theorem dimB_len {q : Qy} {dims : Int} (h : okQ q dims) {i : Nat} (hi : i < 4) : (dimB q i).length ≤ 30 := by
  have hs := h.size hi
  have hn := numB_len ((q.T i).size : Int) 10 (by omega) (by omega)
  have hb := bytesOf_length (q.T i)
  unfold dimB
  cases q.H i <;> simp <;> omega
theorem dimsB_len {q : Qy} {dims : Int} (h : okQ q dims) : ∀ i, i ≤ 4 → (dimsB q i).length ≤ 30 * i
  | 0, _ => by simp [dimsB]
  | i + 1, hi => by
    have h1 := dimsB_len h i (by omega)
    have h2 := dimB_len h (show i < 4 by omega)
    unfold dimsB
    rw [List.length_append]
    omega
theorem encB_len {q : Qy} {dims : Int} (h : okQ q dims) {i : Nat} (hi : i ≤ 4) : (encB q i).length ≤ 140 := by
  have h1 := dimsB_len h i hi
  have h2 := h.a; have h3 := h.ab; have h4 := h.b
  have ha := numB_len q.a 10 (by omega) (by omega)
  have hb := numB_len q.b 10 (by omega) (by omega)
  unfold encB
  rw [List.length_append, List.length_append]
  omega
def aenc.T5 : Bool × List (List Nat × List Nat) := (true, [([], []), ([], []), ([1], [1]), ([2], [2]), ([0, 3], [0, 3]), ([], []), ([5], [5]), ([6], [6]), ([4, 7, 4], [4, 7])])
def aenc.B5 : List Nat := [0, 0, 2, 6, 15, 0, 32, 96, 255]
theorem aenc.tab5 : rtab .any (opsOf Try.f55 5) = aenc.T5 := by kernel_rfl
theorem aenc.bits5 : waitsOk aenc.T5.2 aenc.B5 = true := by kernel_rfl
set_option maxHeartbeats 8000000 in
set_option maxRecDepth 100000 in
theorem Encode_bad.calls (q : Qy) (dims : Int) (w : World) (hc : chkQ q dims ≠ 0) :
    Calls Try.prog 55 #[.agg q.cells, .int .i64 dims] w fun e w' => e = .returned (.tuple #[.slice none 0 0, .int .i64 (chkQ q dims)]) ∧ Below w.heap.size w w' := by
  obtain ⟨c, hcc⟩ : ∃ c, chkQ q dims = c := ⟨_, rfl⟩
  have HC := Aside0.mk hcc
  rw [hcc] at hc ⊢
  have hne : (c != 0) = true := by simp [hc]
  clear hc hcc
  have HB := Aside0.mk (show Below w.heap.size w (w.alloc (.cells q.cells 58 (0, 0))) from (Below.refl _ w).alloc (Nat.le_refl _) _)
  have hC := Check.calls q dims c
  unfold Qy.cells at HB hC ⊢
  have HK := Aside0.mk hC
  clear hC
  go_enter Try.func55, Try.ntmps55
  go_wp2_with fail
  refine (HK.out _ HC.out).mono ?_
  rintro e w2 ⟨rfl, hb⟩
  have HB2 := Aside0.mk (below_step HB.out hb)
  clear hb HB
  go_wp2
  go_ret2
  exact ⟨rfl, HB2.out⟩
set_option maxHeartbeats 8000000 in
set_option maxRecDepth 100000 in
theorem Encode_ok.calls (q : Qy) (dims : Nat) (w : World) (hc : chkQ q dims = 0) :
    Calls Try.prog 55 #[.agg q.cells, .int .i64 dims] w fun e w' => ∃ v, e = .returned (.tuple #[v, .int .i64 0]) ∧ Kd.R (Kd.int .u8) 5 w' w.heap.size (fun _ => True) v (encB q dims) ∧ Below w.heap.size w w' := by
  have HC := Aside0.mk hc
  have HO := Aside0.mk (chk_ok hc)
  have hd4 : dims ≤ 4 := by have := HO.out.d; omega
  have ha0 : 0 ≤ q.a := HO.out.a
  have ha1 : q.a < 18446744073709551616 := by have := HO.out.ab; have := HO.out.b; omega
  have hb0 : 0 ≤ q.b := by have := HO.out.ab; have := HO.out.a; omega
  have hb1 : q.b < 18446744073709551616 := by have := HO.out.b; omega
  have hwa : IntKind.u64.wrap q.a = q.a := by rw [wrap_u64]; omega
  have hwb : IntKind.u64.wrap q.b = q.b := by rw [wrap_u64]; omega
  have hl3 : (([] : List Int) ++ numB q.a).length ≤ 1000000 := by have := numB_len q.a 10 (by omega) (by omega); simp; omega
  clear hc
  have HQ := Aside0.mk (QB.new q w)
  have HB := Aside0.mk (show Below w.heap.size w (w.alloc (.cells q.cells 58 (0, 0))) from (Below.refl _ w).alloc (Nat.le_refl _) _)
  have hC := Check.calls q dims 0
  unfold Qy.cells at HQ HB hC ⊢
  have HK := Aside0.mk hC
  clear hC
  go_enter Try.func55, Try.ntmps55
  go_wp2_with fail
  refine (HK.out _ HC.out).mono ?_
  rintro e w2 ⟨rfl, hb⟩
  have HB0 := Aside0.mk (below_step HB.out hb)
  have HQg := Aside0.mk (HQ.out.below hb)
  clear hb HB HQ HK HC
  go_wp2_with fail
  have HW := Aside0.mk (show WrS w2.heap.size w2.heap.size (.slice none 0 0) [] (w2.alloc (.cells #[.slice none 0 0] 40 (0, 0))).drew from ⟨blk_drew (blk_new w2 _), Kd.R_nil _ _ _ _ _⟩)
  have HB := Aside0.mk (show Below w2.heap.size w2 (w2.alloc (.cells #[.slice none 0 0] 40 (0, 0))).drew from below_drew1 ((Below.refl _ w2).alloc (Nat.le_refl _) _))
  have HQ := Aside0.mk (HQg.out.below HB.out)
  refine start_ (n := 9) (S := fun w' => w'.cell? ⟨w.heap.size, 0, none⟩ = some (.int .i64 q.a) ∧ w'.cell? ⟨w.heap.size, 1, none⟩ = some (.int .i64 q.b)) (ds := []) #[false, false, false, false, false, false, false, false, false] (by kernel_rfl) rfl rfl ⟨HQ.out.ca, HQ.out.cb⟩ (fun hHeld => ?_)
  refine with_tabW aenc.tab5 aenc.bits5 (fun HT_ HW_ => ?_)
  generalize hW : (World.alloc _ _).drew = W at HW HB HQ hHeld ⊢
  clear hW
  refine pure_ (i := 0) (N := some 18) (v := ?_) (a' := ?_) #[true, false, false, false, false, false, false, false, false] rfl rfl (any_of HT_.out (by kernel_rfl)) (fun _ _ _ h => h) (Or.inl ⟨by rfl, ?_⟩) ?_ ?_
  rotate_left
  · intro w'
    go_simp
    with_reducible rfl
  rotate_left
  · simp only [Act.put, List.setIfInBounds_toArray, List.set_cons_zero, List.set_cons_succ, i64_w, i32_w]
    rfl
  refine pure_ (i := 1) (N := some 19) (v := ?_) (a' := ?_) #[true, true, false, false, false, false, false, false, false] rfl rfl (any_of HT_.out (by kernel_rfl)) (fun _ _ _ h => h) (Or.inl ⟨by rfl, ?_⟩) ?_ ?_
  rotate_left
  · intro w'
    go_simp
    with_reducible rfl
  rotate_left
  · simp only [Act.put, List.setIfInBounds_toArray, List.set_cons_zero, List.set_cons_succ, i64_w, i32_w]
    rfl
  refine pure_ (i := 5) (N := some 23) (v := ?_) (a' := ?_) #[true, true, false, false, false, true, false, false, false] rfl rfl (any_of HT_.out (by kernel_rfl)) (fun _ _ _ h => h) (Or.inl ⟨by rfl, ?_⟩) ?_ ?_
  rotate_left
  · intro w'
    go_simp
    with_reducible rfl
  rotate_left
  · simp only [Act.put, List.setIfInBounds_toArray, List.set_cons_zero, List.set_cons_succ, i64_w, i32_w]
    rfl
  refine take_ (i := 2) (N := some 20) (v := ?_) (a' := ?_) #[true, true, true, false, false, true, false, false, false] rfl rfl (take_ofW HT_.out HW_.out (by kernel_rfl)) (fun _ _ _ h => h) (Or.inl ⟨by rfl, ?_⟩) hHeld ?_ ?_
  rotate_left
  · rintro w' ⟨s0, s1⟩
    go_simp
    with_reducible rfl
  rotate_left
  · simp only [Act.put, List.setIfInBounds_toArray, List.set_cons_zero, List.set_cons_succ, i64_w, i32_w]
    rfl
  refine pure_ (i := 3) (N := some 21) (v := ?_) (a' := ?_) #[true, true, true, true, false, true, false, false, false] rfl rfl (any_of HT_.out (by kernel_rfl)) (fun _ _ _ h => h) (Or.inl ⟨by rfl, ?_⟩) ?_ ?_
  rotate_left
  · intro w'
    go_simp
    with_reducible rfl
  rotate_left
  · simp only [Act.put, List.setIfInBounds_toArray, List.set_cons_zero, List.set_cons_succ, i64_w, i32_w]
    rfl
  refine take_ (i := 6) (N := some 24) (v := ?_) (a' := ?_) #[true, true, true, true, false, true, true, false, false] rfl rfl (take_ofW HT_.out HW_.out (by kernel_rfl)) (fun _ _ _ h => h) (Or.inl ⟨by rfl, ?_⟩) hHeld ?_ ?_
  rotate_left
  · rintro w' ⟨s0, s1⟩
    go_simp
    with_reducible rfl
  rotate_left
  · simp only [Act.put, List.setIfInBounds_toArray, List.set_cons_zero, List.set_cons_succ, i64_w, i32_w]
    rfl
  refine pure_ (i := 7) (N := some 25) (v := ?_) (a' := ?_) #[true, true, true, true, false, true, true, true, false] rfl rfl (any_of HT_.out (by kernel_rfl)) (fun _ _ _ h => h) (Or.inl ⟨by rfl, ?_⟩) ?_ ?_
  rotate_left
  · intro w'
    go_simp
    with_reducible rfl
  rotate_left
  · simp only [Act.put, List.setIfInBounds_toArray, List.set_cons_zero, List.set_cons_succ, i64_w, i32_w]
    rfl
  refine one_ (i := 4) (N := some 22) #[true, true, true, true, true, true, true, true, false] rfl rfl (one_of HT_.out (by kernel_rfl)) (by decide) (fun K hK => ?_)
  refine goes_ Try.func27 (by kernel_rfl) rfl #[.pointer (some ⟨w2.heap.size, 0, none⟩), .int .u64 q.a] (by rfl) rfl rfl (by (try simp only [List.map_toArray, List.map_cons, List.map_nil]); first | done | rfl) ?_
  with_reducible refine (Writer_Num.calls w2.heap.size w2.heap.size _ [] q.a w2 _ ha0 ha1 (by simp) HB.out (Nat.le_refl _) HW.out).mono ?_
  rintro e w3 ⟨v3, rfl, hw, hb, -⟩
  refine ⟨_, rfl, ?_⟩
  have HW3 := Aside0.mk hw
  have HB3 := Aside0.mk hb
  have HQ3 := Aside0.mk (HQg.out.below hb)
  clear hw hb HW HB HQ
  refine hK.out _ _ ⟨HQ3.out.ca, HQ3.out.cb⟩ (fun hHeld => ?_)
  clear hK K
  refine norm_ (a' := ?_) ?_ ?_
  rotate_left
  · show Act.put _ (some 22) _ = _
    simp only [Act.put, List.setIfInBounds_toArray, List.set_cons_zero, List.set_cons_succ, i64_w, i32_w]
    rfl
  refine one_ (i := 8) (N := some 26) #[true, true, true, true, true, true, true, true, true] rfl rfl (one_of HT_.out (by kernel_rfl)) (by decide) (fun K hK => ?_)
  refine goes_ Try.func27 (by kernel_rfl) rfl #[.pointer (some ⟨w2.heap.size, 0, none⟩), .int .u64 q.b] (by rfl) rfl rfl (by (try simp only [List.map_toArray, List.map_cons, List.map_nil]); first | done | rfl) ?_
  with_reducible refine (Writer_Num.calls w2.heap.size w2.heap.size v3 _ q.b w2 w3 hb0 hb1 hl3 HB3.out (Nat.le_refl _) HW3.out).mono ?_
  rintro e w4 ⟨v4, rfl, hw, hb, -⟩
  refine ⟨_, rfl, ?_⟩
  have HW4 := Aside0.mk hw
  have HB4 := Aside0.mk hb
  have HQ4 := Aside0.mk (HQg.out.below hb)
  clear hw hb HW3 HB3 HQ3
  refine hK.out _ _ ⟨HQ4.out.ca, HQ4.out.cb⟩ (fun hHeld => ?_)
  clear hK K
  refine norm_ (a' := ?_) ?_ ?_
  rotate_left
  · show Act.put _ (some 26) _ = _
    simp only [Act.put, List.setIfInBounds_toArray, List.set_cons_zero, List.set_cons_succ, i64_w, i32_w]
    rfl
  refine done_ (done_of HT_.out (by kernel_rfl)) ?_

  clear hHeld
  rw [List.nil_append] at HW4
  clear hwa hwb
  go_wp2
  go_loopw [9, 30] (fun x9 x30 wr => ∃ (i : Nat) (v : Value), x30 = .int .i64 i ∧ i ≤ dims ∧ Aside0 (WrS w2.heap.size w2.heap.size v (encB q i) wr) ∧ Aside0 (QB w.heap.size q wr) ∧ Aside0 (Below w2.heap.size w2 wr)) (fun _ x30 _ => dims - (intOf x30).toNat)
  case atStart => exact ⟨0, v4, rfl, by omega, ⟨by simpa [encB, dimsB] using HW4.out⟩, HQ4, HB4⟩
  case round =>
    clear HW4 HQ4 HB4 ha0 ha1 hb0 hb1 hl3
    obtain ⟨i, v, rfl, hi, HW, HQ, HB⟩ := hrel
    by_cases d : i < dims
    · have dl : decide ((i : Int) < (dims : Int)) = true := decide_eq_true (by omega)
      have d4 : i < 4 := by omega
      have b1 : (0 : Int) ≤ (i : Int) := by omega
      have b2 : (i : Int) < 4 := by omega
      have hw : wrap64 ((i : Int) + 1) = ((i + 1 : Nat) : Int) := by unfold wrap64; omega
      have hl := encB_len HO.out (show i ≤ 4 by omega)
      have hts := HO.out.size d4
      have f1 := HQ.out.cG d4
      go_wp2_with fail
      clear f1
      refine (Writer_Bool.calls w2.heap.size w2.heap.size v _ (q.G i) w2 _ (by omega) HB.out (Nat.le_refl _) HW.out).mono ?_
      rintro e w5 ⟨v5, rfl, hw5, hb5, -⟩
      have HW5 := Aside0.mk hw5
      have HB5 := Aside0.mk hb5
      have HQ5 := Aside0.mk (HQg.out.below hb5)
      clear hw5 hb5 HW HB HQ
      have f1 := HQ5.out.cH d4
      go_wp2_with fail
      clear f1
      refine (Writer_Bool.calls w2.heap.size w2.heap.size v5 _ (q.H i) w2 _ (by simp; omega) HB5.out (Nat.le_refl _) HW5.out).mono ?_
      rintro e w6 ⟨v6, rfl, hw6, hb6, -⟩
      have HW6 := Aside0.mk hw6
      have HB6 := Aside0.mk hb6
      have HQ6 := Aside0.mk (HQg.out.below hb6)
      clear hw6 hb6 HW5 HB5 HQ5
      have f1 := HQ6.out.cH d4
      have f2 := HQ6.out.cT d4
      cases hH : q.H i
      · rw [hH] at f1
        have HW7 := Aside0.mk (show WrS w2.heap.size w2.heap.size v6 (encB q (i + 1)) w6 by
          have h := HW6.out
          rw [hH] at h
          have e : encB q (i + 1) = encB q i ++ [if q.G i then 1 else 0] ++ [if false = true then 1 else 0] := by simp [encB, dimsB, dimB, hH]
          rw [e]; exact h)
        clear HW6
        go_wp2
        go_roundw
        case rel => exact ⟨i + 1, v6, rfl, by omega, HW7, HQ6, HB6⟩
        case measure => simp only [intOf]; omega
      · rw [hH] at f1
        go_wp2_with fail
        clear f1 f2
        refine (Writer_Text.calls w2.heap.size w2.heap.size v6 _ (q.T i) w2 _ (by omega) (by simp; omega) HB6.out (Nat.le_refl _) HW6.out).mono ?_
        rintro e w7 ⟨v7, rfl, hw7, hb7, -⟩
        have HW7 := Aside0.mk (show WrS w2.heap.size w2.heap.size v7 (encB q (i + 1)) w7 by
          have e : encB q (i + 1) = encB q i ++ [if q.G i then 1 else 0] ++ [if q.H i then 1 else 0] ++ numB ((q.T i).size : Nat) ++ bytesOf (q.T i) := by simp [encB, dimsB, dimB, hH]
          rw [e]; exact hw7)
        have HB7 := Aside0.mk hb7
        have HQ7 := Aside0.mk (HQg.out.below hb7)
        clear hw7 hb7 HW6 HB6 HQ6
        go_wp2
        go_roundw
        case rel => exact ⟨i + 1, v7, rfl, by omega, HW7, HQ7, HB7⟩
        case measure => simp only [intOf]; omega
    · obtain rfl : i = dims := by omega
      have dl : decide ((i : Int) < (i : Int)) = false := decide_eq_false (by omega)
      go_wp2_with fail
      refine (Bytes.calls w2.heap.size w2.heap.size v (encB q i) _ (by have := encB_len HO.out (show i ≤ 4 by omega); omega) HW.out).mono ?_
      rintro e w8 ⟨v8, rfl, ho, hb8⟩
      have HR := Aside0.mk ho
      have HB8 := Aside0.mk (below_step HB0.out (show Below w2.heap.size w2 w8 from (HB.out.trans (hb8.mono (by have := HB.out.size; omega)))))
      clear ho hb8
      go_wp2
      go_ret2
      exact ⟨v8, rfl, Kd.R_lower HR.out (by have := HB.out.size; have := HB0.out.size; omega), HB8.out⟩
end As
end Go.Proofs.Ytjegkfdcelodeaa.P
