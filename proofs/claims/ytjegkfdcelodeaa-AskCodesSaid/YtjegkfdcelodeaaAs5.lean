import Derived.Test.YtjegkfdcelodeaaAs4
import Derived.Test.YtjegkfdcelodeaaPol
import Derived.Test.YtjegkfdcelodeaaPx12
import Derived.Test.YtjegkfdcelodeaaPx13
namespace Go.Proofs.Ytjegkfdcelodeaa.P
open Go.RowKit Go.Proofs.YtjegkfdcelodeaaW.PrintWords Go.Proofs.YtjegkfdcelodeaaW.PrintLast Go.Proofs.YtjegkfdcelodeaaW.PrintMore
attribute [local go_sem] max2_int min2_int max_two min_two max_three min_three max_four min_four
set_option linter.unusedVariables false
set_option linter.unusedSimpArgs false
namespace As
open Wr
theorem ref_Bool_eq (b : Bool) : ossuaryref01_Bool.f b = some [if b then 1 else 0] := by cases b <;> rfl
theorem ref_Text_eq (t : ByteArray) (h : t.size ≤ 1000) : ossuaryref01_Text.f 100 t = some (numB t.size ++ bytesOf t) := by
  have hw : IntKind.u64.wrap ((t.size : Int)) = (t.size : Int) := by rw [wrap_u64]; omega
  have hn := numB_len ((t.size : Int)) 10 (by omega) (by omega)
  unfold ossuaryref01_Text.f
  rw [hw, Pol.ref_Num_eq 100 _ (by omega) (by omega) (by omega) (by omega), Option.bind_some, if_pos (by omega)]
def renc.T4 : Bool × List (List Nat × List Nat) := (true, [([], []), ([0], [0]), ([1], [1]), ([2], [2]), ([], []), ([4], [4]), ([5], [5]), ([6, 3], [6]), ([3, 7, 7], [3, 7]), ([8, 8, 0, 1, 2, 3, 4, 5, 6, 7, 8], [8])])
def renc.B4 : List Nat := [0, 1, 3, 7, 0, 16, 48, 127, 255, 511]
theorem renc.tab4 : rtab .any (opsOf Try.f56 4) = renc.T4 := by kernel_rfl
theorem renc.bits4 : waitsOk renc.T4.2 renc.B4 = true := by kernel_rfl
set_option maxHeartbeats 8000000 in
set_option maxRecDepth 100000 in
theorem REncode_bad.calls (q : Qy) (dims : Int) (w : World) (hc : chkQ q dims ≠ 0) :
    Calls Try.prog 56 #[.agg q.cells, .int .i64 dims] w fun e w' => e = .returned (.tuple #[.slice none 0 0, .int .i64 (chkQ q dims)]) ∧ Below w.heap.size w w' := by
  obtain ⟨c, hcc⟩ : ∃ c, chkQ q dims = c := ⟨_, rfl⟩
  have HC := Aside0.mk hcc
  rw [hcc] at hc ⊢
  have hne : (c != 0) = true := by simp [hc]
  clear hc hcc
  have HB := Aside0.mk (show Below w.heap.size w (w.alloc (.cells q.cells 58 (0, 0))) from (Below.refl _ w).alloc (Nat.le_refl _) _)
  have hC := RCheck.calls q dims c
  unfold Qy.cells at HB hC ⊢
  have HK := Aside0.mk hC
  clear hC
  go_enter Try.func56, Try.ntmps56
  go_wp2_with fail
  refine (HK.out _ HC.out).mono ?_
  rintro e w2 ⟨rfl, hb⟩
  have HB2 := Aside0.mk (below_step HB.out hb)
  clear hb HB
  go_wp2
  go_ret2
  exact ⟨rfl, HB2.out⟩
set_option maxHeartbeats 8000000 in
set_option maxRecDepth 100000 in
theorem REncode_ok.calls (q : Qy) (dims : Nat) (w : World) (hc : chkQ q dims = 0) :
    Calls Try.prog 56 #[.agg q.cells, .int .i64 dims] w fun e w' => ∃ v, e = .returned (.tuple #[v, .int .i64 0]) ∧ Kd.R (Kd.int .u8) 5 w' w.heap.size (fun _ => True) v (encB q dims) ∧ Below w.heap.size w w' := by
  have HC := Aside0.mk hc
  have HO := Aside0.mk (chk_ok hc)
  have hd4 : dims ≤ 4 := by have := HO.out.d; omega
  have ha0 : 0 ≤ q.a := HO.out.a
  have ha1 : q.a < 18446744073709551616 := by have := HO.out.ab; have := HO.out.b; omega
  have hb0 : 0 ≤ q.b := by have := HO.out.ab; have := HO.out.a; omega
  have hb1 : q.b < 18446744073709551616 := by have := HO.out.b; omega
  have hwa : IntKind.u64.wrap q.a = q.a := by rw [wrap_u64]; omega
  have hwb : IntKind.u64.wrap q.b = q.b := by rw [wrap_u64]; omega
  have HN1 := Aside0.mk (Pol.ref_Num_eq 100 q.a ha0 ha1 (by omega) (by omega))
  have HN2 := Aside0.mk (Pol.ref_Num_eq 100 q.b hb0 hb1 (by omega) (by omega))
  have HL := Aside0.mk (show (numB q.a).length ≤ 10 ∧ (numB q.b).length ≤ 10 from ⟨numB_len q.a 10 (by omega) (by omega), numB_len q.b 10 (by omega) (by omega)⟩)
  clear hc ha0 ha1 hb0 hb1
  have HQ := Aside0.mk (QB.new q w)
  have HB := Aside0.mk (show Below w.heap.size w (w.alloc (.cells q.cells 58 (0, 0))) from (Below.refl _ w).alloc (Nat.le_refl _) _)
  have hC := RCheck.calls q dims 0
  unfold Qy.cells at HQ HB hC ⊢
  have HK := Aside0.mk hC
  clear hC
  go_enter Try.func56, Try.ntmps56
  go_wp2_with fail
  refine (HK.out _ HC.out).mono ?_
  rintro e w2 ⟨rfl, hb⟩
  have HB0 := Aside0.mk (below_step HB.out hb)
  have HQg := Aside0.mk (HQ.out.below hb)
  clear hb HB HQ HK HC
  go_wp2_with fail
  have HB := Aside0.mk (show Below w2.heap.size w2 w2.drew from below_drew1 (Below.refl _ w2))
  have HQ := Aside0.mk (HQg.out.below HB.out)
  refine start_ (n := 10) (S := fun w' => w'.cell? ⟨w.heap.size, 0, none⟩ = some (.int .i64 q.a) ∧ w'.cell? ⟨w.heap.size, 1, none⟩ = some (.int .i64 q.b)) (ds := []) #[false, false, false, false, false, false, false, false, false, false] (by kernel_rfl) rfl rfl ⟨HQ.out.ca, HQ.out.cb⟩ (fun hHeld => ?_)
  refine with_tabW renc.tab4 renc.bits4 (fun HT_ HW_ => ?_)
  generalize hW : World.drew _ = W at HB HQ hHeld ⊢
  clear hW
  refine pure_ (i := 0) (N := some 15) (v := ?_) (a' := ?_) #[true, false, false, false, false, false, false, false, false, false] rfl rfl (any_of HT_.out (by kernel_rfl)) (fun _ _ _ h => h) (Or.inl ⟨by rfl, ?_⟩) ?_ ?_
  rotate_left
  · intro w'
    go_simp
    with_reducible rfl
  rotate_left
  · simp only [Act.put, List.setIfInBounds_toArray, List.set_cons_zero, List.set_cons_succ, i64_w, i32_w]
    rfl
  refine pure_ (i := 4) (N := some 19) (v := ?_) (a' := ?_) #[true, false, false, false, true, false, false, false, false, false] rfl rfl (any_of HT_.out (by kernel_rfl)) (fun _ _ _ h => h) (Or.inl ⟨by rfl, ?_⟩) ?_ ?_
  rotate_left
  · intro w'
    go_simp
    with_reducible rfl
  rotate_left
  · simp only [Act.put, List.setIfInBounds_toArray, List.set_cons_zero, List.set_cons_succ, i64_w, i32_w]
    rfl
  refine take_ (i := 1) (N := some 16) (v := ?_) (a' := ?_) #[true, true, false, false, true, false, false, false, false, false] rfl rfl (take_ofW HT_.out HW_.out (by kernel_rfl)) (fun _ _ _ h => h) (Or.inl ⟨by rfl, ?_⟩) hHeld ?_ ?_
  rotate_left
  · rintro w' ⟨s0, s1⟩
    go_simp
    with_reducible rfl
  rotate_left
  · simp only [Act.put, List.setIfInBounds_toArray, List.set_cons_zero, List.set_cons_succ, i64_w, i32_w]
    rfl
  refine pure_ (i := 2) (N := some 17) (v := ?_) (a' := ?_) #[true, true, true, false, true, false, false, false, false, false] rfl rfl (any_of HT_.out (by kernel_rfl)) (fun _ _ _ h => h) (Or.inl ⟨by rfl, ?_⟩) ?_ ?_
  rotate_left
  · intro w'
    go_simp
    with_reducible rfl
  rotate_left
  · simp only [Act.put, List.setIfInBounds_toArray, List.set_cons_zero, List.set_cons_succ, i64_w, i32_w]
    rfl
  refine take_ (i := 5) (N := some 20) (v := ?_) (a' := ?_) #[true, true, true, false, true, true, false, false, false, false] rfl rfl (take_ofW HT_.out HW_.out (by kernel_rfl)) (fun _ _ _ h => h) (Or.inl ⟨by rfl, ?_⟩) hHeld ?_ ?_
  rotate_left
  · rintro w' ⟨s0, s1⟩
    go_simp
    with_reducible rfl
  rotate_left
  · simp only [Act.put, List.setIfInBounds_toArray, List.set_cons_zero, List.set_cons_succ, i64_w, i32_w]
    rfl
  refine pure_ (i := 6) (N := some 21) (v := ?_) (a' := ?_) #[true, true, true, false, true, true, true, false, false, false] rfl rfl (any_of HT_.out (by kernel_rfl)) (fun _ _ _ h => h) (Or.inl ⟨by rfl, ?_⟩) ?_ ?_
  rotate_left
  · intro w'
    go_simp
    with_reducible rfl
  rotate_left
  · simp only [Act.put, List.setIfInBounds_toArray, List.set_cons_zero, List.set_cons_succ, i64_w, i32_w]
    rfl
  refine one_ (i := 3) (N := some 18) #[true, true, true, true, true, true, true, false, false, false] rfl rfl (one_of HT_.out (by kernel_rfl)) (by decide) (fun K hK => ?_)
  refine goes_ Try.func29 (by kernel_rfl) rfl #[.int .u64 q.a] (by rfl) rfl rfl (by (try simp only [List.map_toArray, List.map_cons, List.map_nil]); first | done | rfl) ?_
  with_reducible refine (ossuaryref01_Num.calls 100 q.a (numB q.a) _ HN1.out).mono ?_
  rintro e w3 ⟨v3, rfl, hw, hb⟩
  refine ⟨_, rfl, ?_⟩
  have HW3 := Aside0.mk (Kd.R_lower hw HB.out.size)
  have HB3 := Aside0.mk (below_step HB.out hb)
  have HQ3 := Aside0.mk (HQg.out.below HB3.out)
  clear hw hb HB HQ
  refine hK.out _ _ ⟨HQ3.out.ca, HQ3.out.cb⟩ (fun hHeld => ?_)
  clear hK K
  refine norm_ (a' := ?_) ?_ ?_
  rotate_left
  · show Act.put _ (some 18) _ = _
    simp only [Act.put, List.setIfInBounds_toArray, List.set_cons_zero, List.set_cons_succ, i64_w, i32_w]
    rfl
  refine one_ (i := 7) (N := some 22) #[true, true, true, true, true, true, true, true, false, false] rfl rfl (one_of HT_.out (by kernel_rfl)) (by decide) (fun K hK => ?_)
  refine goes_ Try.func29 (by kernel_rfl) rfl #[.int .u64 q.b] (by rfl) rfl rfl (by (try simp only [List.map_toArray, List.map_cons, List.map_nil]); first | done | rfl) ?_
  with_reducible refine (ossuaryref01_Num.calls 100 q.b (numB q.b) _ HN2.out).mono ?_
  rintro e w4 ⟨v4, rfl, hw, hb⟩
  refine ⟨_, rfl, ?_⟩
  have HW4 := Aside0.mk (Kd.R_below HW3.out hb)
  have HB4 := Aside0.mk (below_step HB3.out hb)
  have HQ4 := Aside0.mk (HQg.out.below HB4.out)
  obtain ⟨A4, c4, rfl, hc4, hC4⟩ := Kd.R_reads hw
  have HC4 := Aside0.mk hC4
  clear hw hb hC4 hc4 HW3 HB3 HQ3
  refine hK.out _ _ ⟨HQ4.out.ca, HQ4.out.cb⟩ (fun hHeld => ?_)
  clear hK K
  refine norm_ (a' := ?_) ?_ ?_
  rotate_left
  · show Act.put _ (some 22) _ = _
    simp only [Act.put, List.setIfInBounds_toArray, List.set_cons_zero, List.set_cons_succ, i64_w, i32_w]
    rfl
  refine one_ (i := 8) (N := some 23) #[true, true, true, true, true, true, true, true, true, false] rfl rfl (one_of HT_.out (by kernel_rfl)) (by decide) (fun K hK => ?_)
  refine Kd.R_append_rows_step (Kd.int .u8) (w0 := w2) w2.heap.size ?hw (.tmp 18) (.tmp 22) 32 5 (.int .u8 0) 1 rfl Try.underlying32 info5 rfl (by decide) (by omega) v3 (numB q.a) (numB q.b) A4 (numB q.b).length c4 (fun _ => True) (fun _ => False) rfl rfl ?aO ?aR (fun _ _ h => h) (fun _ h => h.elim) (fun _ _ => trivial) HB4.out HB4.out.size ?aL ?_
  (case hw => rfl)
  (case aO => exact HW4.out)
  (case aR => exact HC4.out)
  (case aL => have := HL.out; omega)
  intro v5 w5 ho hb hg hat
  have HW5 := Aside0.mk ho
  have HB5 := Aside0.mk hb
  have HQ5 := Aside0.mk (HQg.out.below hb)
  clear ho hb hg hat HW4 HB4 HC4 HQ4
  refine hK.out _ _ ⟨HQ5.out.ca, HQ5.out.cb⟩ (fun hHeld => ?_)
  clear hK K
  refine norm_ (a' := ?_) ?_ ?_
  rotate_left
  · show Act.put _ (some 23) _ = _
    simp only [Act.put, List.setIfInBounds_toArray, List.set_cons_zero, List.set_cons_succ, i64_w, i32_w]
    rfl
  refine pure_ (i := 9) (N := some 7) (v := ?_) (a' := ?_) #[true, true, true, true, true, true, true, true, true, true] rfl rfl (any_of HT_.out (by kernel_rfl)) (fun _ _ _ h => h) (Or.inl ⟨by rfl, ?_⟩) ?_ ?_
  rotate_left
  · intro w'
    go_simp
    with_reducible rfl
  rotate_left
  · simp only [Act.put, List.setIfInBounds_toArray, List.set_cons_zero, List.set_cons_succ, i64_w, i32_w]
    rfl
  refine done_ (done_of HT_.out (by kernel_rfl)) ?_

  clear hHeld hwa hwb HL HN1 HN2
  go_wp2
  go_loopw [7, 8] (fun x7 x8 wr => ∃ (i : Nat), x8 = .int .i64 i ∧ i ≤ dims ∧ Aside0 (Kd.R (Kd.int .u8) 5 wr w2.heap.size (fun _ => True) x7 (encB q i)) ∧ Aside0 (QB w.heap.size q wr) ∧ Aside0 (Below w2.heap.size w2 wr)) (fun _ x8 _ => dims - (intOf x8).toNat)
  case atStart => exact ⟨0, rfl, by omega, ⟨by simpa [encB, dimsB] using HW5.out⟩, HQ5, HB5⟩
  case round =>
    clear HW5 HQ5 HB5
    obtain ⟨i, rfl, hi, HW, HQ, HB⟩ := hrel
    by_cases d : i < dims
    · have dl : decide ((i : Int) < (dims : Int)) = true := decide_eq_true (by omega)
      have d4 : i < 4 := by omega
      have b1 : (0 : Int) ≤ (i : Int) := by omega
      have b2 : (i : Int) < 4 := by omega
      have hw : wrap64 ((i : Int) + 1) = ((i + 1 : Nat) : Int) := by unfold wrap64; omega
      have HL := Aside0.mk (show (encB q i).length ≤ 140 ∧ (q.T i).size ≤ 16 from ⟨encB_len HO.out (show i ≤ 4 by omega), HO.out.size d4⟩)
      cases hH : q.H i
      · have f1 := HQ.out.cG d4
        go_wp2_with fail
        clear f1
        refine (ossuaryref01_Bool.calls (q.G i) _ _ (ref_Bool_eq _)).mono ?_
        rintro e u1 ⟨x1, rfl, hr, hb⟩
        obtain ⟨A1, c1, rfl, hc, hC⟩ := Kd.R_reads hr
        replace HW := Aside0.mk (Kd.R_below HW.out hb)
        replace HB := Aside0.mk (below_step HB.out hb)
        replace HQ := Aside0.mk (HQg.out.below HB.out)
        have HC := Aside0.mk hC
        clear hr hb hc hC
        go_wp2_with ((with_reducible refine gate_builtin (b := .append) (xs := #[.tmp 29, .tmp 34]) rfl ?_); at_builtin; refine Kd.R_append_rows (Kd.int .u8) (w0 := w2) w2.heap.size rfl (.tmp 29) (.tmp 34) 32 5 (.int .u8 0) 1 rfl Try.underlying32 info5 rfl (by decide) (by omega) u7 (encB q i) ([if q.G i then 1 else 0]) A1 (1) c1 (fun _ => True) (fun _ => False) rfl rfl ?aO ?aR (fun _ _ h => h) (fun _ h => h.elim) ?aF ?aB ?aS ?aL ?_; (case aF => intro k hk; trivial); (case aO => exact HW.out); (case aR => exact HC.out); (case aB => exact HB.out); (case aS => exact HB.out.size); (case aL => have := HL.out; (try simp only [List.length_append, List.length_cons, List.length_nil]); omega); intro y1 s1 ho hb hg hat; have HW := Aside0.mk ho; have HB := Aside0.mk hb; have HQ := Aside0.mk (HQg.out.below hb); clear ho hb hg hat HC; have f1 := HQ.out.cH d4; rw [hH] at f1)
        refine (ossuaryref01_Bool.calls false _ _ (ref_Bool_eq _)).mono ?_
        rintro e u2 ⟨x2, rfl, hr, hb⟩
        obtain ⟨A2, c2, rfl, hc, hC⟩ := Kd.R_reads hr
        replace HW := Aside0.mk (Kd.R_below HW.out hb)
        replace HB := Aside0.mk (below_step HB.out hb)
        replace HQ := Aside0.mk (HQg.out.below HB.out)
        have HC := Aside0.mk hC
        clear hr hb hc hC
        go_wp2_with ((with_reducible refine gate_builtin (b := .append) (xs := #[.tmp 36, .tmp 41]) rfl ?_); at_builtin; refine Kd.R_append_rows (Kd.int .u8) (w0 := w2) w2.heap.size rfl (.tmp 36) (.tmp 41) 32 5 (.int .u8 0) 1 rfl Try.underlying32 info5 rfl (by decide) (by omega) y1 (encB q i ++ [if q.G i then 1 else 0]) ([if false = true then 1 else 0]) A2 (1) c2 (fun _ => True) (fun _ => False) rfl rfl ?aO ?aR (fun _ _ h => h) (fun _ h => h.elim) ?aF ?aB ?aS ?aL ?_; (case aF => intro k hk; trivial); (case aO => exact HW.out); (case aR => exact HC.out); (case aB => exact HB.out); (case aS => exact HB.out.size); (case aL => have := HL.out; (try simp only [List.length_append, List.length_cons, List.length_nil]); omega); intro y2 s2 ho hb hg hat; have HW := Aside0.mk ho; have HB := Aside0.mk hb; have HQ := Aside0.mk (HQg.out.below hb); clear ho hb hg hat HC; have f1 := HQ.out.cH d4; rw [hH] at f1)
        have HW7 := Aside0.mk (show Kd.R (Kd.int .u8) 5 s2 w2.heap.size (fun _ => True) y2 (encB q (i + 1)) by
          have h := HW.out
          have e : encB q (i + 1) = encB q i ++ [if q.G i then 1 else 0] ++ [if false = true then 1 else 0] := by simp [encB, dimsB, dimB, hH]
          rw [e]; exact h)
        clear HW
        go_roundw
        case rel => exact ⟨i + 1, rfl, by omega, HW7, HQ, HB⟩
        case measure => simp only [intOf]; omega
      · have f1 := HQ.out.cG d4
        go_wp2_with fail
        clear f1
        refine (ossuaryref01_Bool.calls (q.G i) _ _ (ref_Bool_eq _)).mono ?_
        rintro e u1 ⟨x1, rfl, hr, hb⟩
        obtain ⟨A1, c1, rfl, hc, hC⟩ := Kd.R_reads hr
        replace HW := Aside0.mk (Kd.R_below HW.out hb)
        replace HB := Aside0.mk (below_step HB.out hb)
        replace HQ := Aside0.mk (HQg.out.below HB.out)
        have HC := Aside0.mk hC
        clear hr hb hc hC
        go_wp2_with ((with_reducible refine gate_builtin (b := .append) (xs := #[.tmp 29, .tmp 34]) rfl ?_); at_builtin; refine Kd.R_append_rows (Kd.int .u8) (w0 := w2) w2.heap.size rfl (.tmp 29) (.tmp 34) 32 5 (.int .u8 0) 1 rfl Try.underlying32 info5 rfl (by decide) (by omega) u7 (encB q i) ([if q.G i then 1 else 0]) A1 (1) c1 (fun _ => True) (fun _ => False) rfl rfl ?aO ?aR (fun _ _ h => h) (fun _ h => h.elim) ?aF ?aB ?aS ?aL ?_; (case aF => intro k hk; trivial); (case aO => exact HW.out); (case aR => exact HC.out); (case aB => exact HB.out); (case aS => exact HB.out.size); (case aL => have := HL.out; (try simp only [List.length_append, List.length_cons, List.length_nil]); omega); intro y1 s1 ho hb hg hat; have HW := Aside0.mk ho; have HB := Aside0.mk hb; have HQ := Aside0.mk (HQg.out.below hb); clear ho hb hg hat HC; have f1 := HQ.out.cH d4; rw [hH] at f1)
        refine (ossuaryref01_Bool.calls true _ _ (ref_Bool_eq _)).mono ?_
        rintro e u2 ⟨x2, rfl, hr, hb⟩
        obtain ⟨A2, c2, rfl, hc, hC⟩ := Kd.R_reads hr
        replace HW := Aside0.mk (Kd.R_below HW.out hb)
        replace HB := Aside0.mk (below_step HB.out hb)
        replace HQ := Aside0.mk (HQg.out.below HB.out)
        have HC := Aside0.mk hC
        clear hr hb hc hC
        go_wp2_with ((with_reducible refine gate_builtin (b := .append) (xs := #[.tmp 36, .tmp 41]) rfl ?_); at_builtin; refine Kd.R_append_rows (Kd.int .u8) (w0 := w2) w2.heap.size rfl (.tmp 36) (.tmp 41) 32 5 (.int .u8 0) 1 rfl Try.underlying32 info5 rfl (by decide) (by omega) y1 (encB q i ++ [if q.G i then 1 else 0]) ([if true = true then 1 else 0]) A2 (1) c2 (fun _ => True) (fun _ => False) rfl rfl ?aO ?aR (fun _ _ h => h) (fun _ h => h.elim) ?aF ?aB ?aS ?aL ?_; (case aF => intro k hk; trivial); (case aO => exact HW.out); (case aR => exact HC.out); (case aB => exact HB.out); (case aS => exact HB.out.size); (case aL => have := HL.out; (try simp only [List.length_append, List.length_cons, List.length_nil]); omega); intro y2 s2 ho hb hg hat; have HW := Aside0.mk ho; have HB := Aside0.mk hb; have HQ := Aside0.mk (HQg.out.below hb); clear ho hb hg hat HC; have f1 := HQ.out.cH d4; rw [hH] at f1; have f2 := HQ.out.cT d4)
        clear f1 f2
        refine (ossuaryref01_Text.calls 100 (q.T i) _ _ (ref_Text_eq _ (by have := HL.out; omega))).mono ?_
        rintro e u3 ⟨x3, rfl, hr, hb⟩
        obtain ⟨A3, c3, rfl, hc, hC⟩ := Kd.R_reads hr
        replace HW := Aside0.mk (Kd.R_below HW.out hb)
        replace HB := Aside0.mk (below_step HB.out hb)
        replace HQ := Aside0.mk (HQg.out.below HB.out)
        rw [List.length_append] at hC
        have HC := Aside0.mk hC
        replace HL := Aside0.mk (show (encB q i ++ [if q.G i then 1 else 0] ++ [if true = true then 1 else 0]).length ≤ 150 ∧ (numB ((q.T i).size : Int)).length + (bytesOf (q.T i)).length ≤ 40 by
          have h1 := HL.out
          have h2 := bytesOf_length (q.T i)
          have h3 := numB_len ((q.T i).size : Int) 10 (by omega) (by omega)
          simp only [List.length_append, List.length_cons, List.length_nil]
          omega)
        clear hr hb hc hC
        go_wp2_with ((with_reducible refine gate_builtin (b := .append) (xs := #[.tmp 47, .tmp 52]) rfl ?_); at_builtin; refine Kd.R_append_rows (Kd.int .u8) (w0 := w2) w2.heap.size rfl (.tmp 47) (.tmp 52) 32 5 (.int .u8 0) 1 rfl Try.underlying32 info5 rfl (by decide) (by omega) y2 (encB q i ++ [if q.G i then 1 else 0] ++ [if true = true then 1 else 0]) (numB (q.T i).size ++ bytesOf (q.T i)) A3 ((numB ((q.T i).size : Int)).length + (bytesOf (q.T i)).length) c3 (fun _ => True) (fun _ => False) rfl rfl ?aO ?aR (fun _ _ h => h) (fun _ h => h.elim) ?aF ?aB ?aS ?aL ?_; (case aF => intro k hk; trivial); (case aO => exact HW.out); (case aR => exact HC.out); (case aB => exact HB.out); (case aS => exact HB.out.size); (case aL => have := HL.out; have h9 := HL.out; simp only [List.length_append, List.length_cons, List.length_nil] at h9 ⊢; omega); intro y3 s3 ho hb hg hat; have HW := Aside0.mk ho; have HB := Aside0.mk hb; have HQ := Aside0.mk (HQg.out.below hb); clear ho hb hg hat HC)
        have HW7 := Aside0.mk (show Kd.R (Kd.int .u8) 5 s3 w2.heap.size (fun _ => True) y3 (encB q (i + 1)) by
          have h := HW.out
          have e : encB q (i + 1) = encB q i ++ [if q.G i then 1 else 0] ++ [if true = true then 1 else 0] ++ (numB ((q.T i).size : Nat) ++ bytesOf (q.T i)) := by simp [encB, dimsB, dimB, hH]
          rw [e]; exact h)
        clear HW
        go_roundw
        case rel => exact ⟨i + 1, rfl, by omega, HW7, HQ, HB⟩
        case measure => simp only [intOf]; omega
    · obtain rfl : i = dims := by omega
      have dl : decide ((i : Int) < (i : Int)) = false := decide_eq_false (by omega)
      go_wp2
      go_ret2
      exact ⟨u7, rfl, Kd.R_lower HW.out (by have := HB.out.size; have := HB0.out.size; omega), below_step HB0.out HB.out⟩
end As
end Go.Proofs.Ytjegkfdcelodeaa.P
