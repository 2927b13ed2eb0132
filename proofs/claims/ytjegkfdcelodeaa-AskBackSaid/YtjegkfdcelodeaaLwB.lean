import Derived.Test.YtjegkfdcelodeaaAs7
import Derived.Test.YtjegkfdcelodeaaLwM
import Derived.Test.YtjegkfdcelodeaaAk
import Derived.Test.YtjegkfdcelodeaaPx10
namespace Go.Proofs.Ytjegkfdcelodeaa.P
open Go.RowKit Go.Proofs.YtjegkfdcelodeaaW.PrintWords Go.Proofs.YtjegkfdcelodeaaW.PrintLast Go.Proofs.YtjegkfdcelodeaaW.PrintMore
attribute [local go_sem] max2_int min2_int max_two min_two max_three min_three max_four min_four
set_option linter.unusedVariables false
set_option linter.unusedSimpArgs false
namespace As
open Wr
set_option maxHeartbeats 8000000 in
set_option maxRecDepth 100000 in
theorem eqQ (d : Nat) (W : World) (a : Qy) : (Op.equalIn (d + 3) 58 (.agg #[.int .i64 a.a, .int .i64 a.b, .bool (a.G 0), .bool (a.G 1), .bool (a.G 2), .bool (a.G 3), .bool (a.H 0), .bool (a.H 1), .bool (a.H 2), .bool (a.H 3), .string (a.T 0), .string (a.T 1), .string (a.T 2), .string (a.T 3)]) (.agg #[.int .i64 a.a, .int .i64 a.b, .bool (a.G 0), .bool (a.G 1), .bool (a.G 2), .bool (a.G 3), .bool (a.H 0), .bool (a.H 1), .bool (a.H 2), .bool (a.H 3), .string (a.T 0), .string (a.T 1), .string (a.T 2), .string (a.T 3)])).run Try.prog W = .ok true W := by
  have h := eq56 d W (a.T 0) (a.T 1) (a.T 2) (a.T 3) (a.T 0) (a.T 1) (a.T 2) (a.T 3)
  simp only [eqS_refl, Bool.and_self] at h
  have h4 : ∀ x : Bool, (Op.equalIn (d + 1) 4 (.bool x) (.bool x)).run Try.prog W = .ok true W := fun x => by rw [run_equalIn_bool W d 4 x x Try.underlying4]; simp
  have g1 : (Op.equalIn (d + 2) 55 (.agg #[.bool (a.G 0), .bool (a.G 1), .bool (a.G 2), .bool (a.G 3)]) (.agg #[.bool (a.G 0), .bool (a.G 1), .bool (a.G 2), .bool (a.G 3)])).run Try.prog W = .ok true W :=
    eq_arr4 W (d + 1) Try.underlying55 (by kernel_rfl) (by kernel_rfl) (by kernel_rfl) _ _ _ _ _ _ _ _ _ _ _ _ (h4 _) (h4 _) (h4 _) (h4 _)
  have g2 : (Op.equalIn (d + 2) 55 (.agg #[.bool (a.H 0), .bool (a.H 1), .bool (a.H 2), .bool (a.H 3)]) (.agg #[.bool (a.H 0), .bool (a.H 1), .bool (a.H 2), .bool (a.H 3)])).run Try.prog W = .ok true W :=
    eq_arr4 W (d + 1) Try.underlying55 (by kernel_rfl) (by kernel_rfl) (by kernel_rfl) _ _ _ _ _ _ _ _ _ _ _ _ (h4 _) (h4 _) (h4 _) (h4 _)
  have c56 : Try.prog.cellsOf 56 = 4 := by kernel_rfl
  have c55 : Try.prog.cellsOf 55 = 4 := by kernel_rfl
  clear h4
  go_simp
set_option maxHeartbeats 8000000 in
set_option maxRecDepth 100000 in
theorem EncodeV.calls (q : Qy) (dims c : Int) (L : List Int) (w : World) (hc : chkQ q dims = c) (hL : encV q dims = L) :
    Calls Try.prog 55 #[.agg q.cells, .int .i64 dims] w fun e w' => ∃ v, e = .returned (.tuple #[v, .int .i64 c]) ∧ Kd.R (Kd.int .u8) 5 w' w.heap.size (fun _ => True) v L ∧ Below w.heap.size w w' := by
  subst hc hL
  by_cases h : chkQ q dims = 0
  · have hd := (chk_ok h).d
    obtain ⟨n, rfl⟩ : ∃ n : Nat, dims = n := ⟨dims.toNat, by omega⟩
    unfold encV
    rw [if_pos h, h, Int.toNat_natCast]
    exact Encode_ok.calls q n w h
  · unfold encV
    rw [if_neg h]
    exact (Encode_bad.calls q dims w h).mono fun e w' k => ⟨_, k.1, Kd.R_nil _ _ _ _ _, k.2⟩
set_option maxHeartbeats 8000000 in
set_option maxRecDepth 100000 in
theorem ReadV.calls (A0 : Option Addr) (c0 : Nat) (l : List Int) (dims : Int) (rq : Qy) (rf : Int) (w : World) (hC : Kd.C (Kd.int .u8) w A0 l.length l) (hc : l.length ≤ c0) (hl : l.length ≤ 1073741824) (hb : bytesP (l, 0)) (hr : readV l dims = (rq, rf)) :
    Calls Try.prog 57 #[.slice A0 l.length c0, .int .i64 dims] w fun e w' => e = .returned (.tuple #[.agg rq.cells, .int .i64 rf]) ∧ Below w.heap.size w w' := by
  by_cases h : dims < 1 ∨ 4 < dims
  · unfold readV at hr
    rw [if_pos h] at hr
    cases hr
    exact Read_dims.calls A0 c0 l dims w h
  · obtain ⟨n, rfl⟩ : ∃ n : Nat, dims = n := ⟨dims.toNat, by omega⟩
    exact Read_in.calls A0 c0 l n rq rf w hC hc hl hb (by omega) (by omega) hr
open Back
theorem same_refl (l : List Int) : ossuaryref01_Same.f l l = some true := by
  unfold ossuaryref01_Same.f; simp
theorem two_new (w : World) (o1 o2 : Obj) : ((w.alloc o1).alloc o2).heap[w.heap.size + 1]? = some o2 := by simpa using blk_new (w.alloc o1) o2
set_option maxHeartbeats 8000000 in
set_option maxRecDepth 100000 in
theorem Cut.calls (q : Qy) (f : Int) (w : World) :
    Calls Try.prog 59 #[.agg q.cells, .int .i64 f] w fun e w' => e = .returned (.agg (cutV q f).cells) ∧ Below w.heap.size w w' := by
  unfold Qy.cells
  go_enter Try.func59, Try.ntmps59
  go_wp2_with fail
  all_goals
    (refine bodyPost_ret (results_cell_row rfl _ _ (w.heap.size + 1) 58 _ (0, 0) _ rfl (two_new _ _ _) Try.underlying58 rfl (by kernel_rfl)) rfl ⟨?_, ((Below.refl _ w).alloc (Nat.le_refl _) _).alloc (by simp) _⟩
     simp only [Ending.returned.injEq, Value.agg.injEq, Array.mk.injEq, List.cons.injEq, Value.int.injEq, true_and, cutV, and_true]
     omega)
theorem numB_byte : ∀ (d : Nat) (x : Int), 0 ≤ x → x < 128 ^ d → 0 < d → ∀ y ∈ numB x, 0 ≤ y ∧ y < 256
  | 0, _, _, _, h => absurd h (by omega)
  | d + 1, x, h0, h1, _ => by
    intro y hy
    rw [numB] at hy
    by_cases c : x < 128
    · rw [if_pos c] at hy
      simp at hy
      omega
    · rw [if_neg c] at hy
      simp only [List.mem_cons] at hy
      rcases hy with rfl | hy
      · omega
      · match d with
        | 0 => simp at h1; omega
        | d + 1 => exact numB_byte (d + 1) (x / 128) (by omega) (by rw [Int.pow_succ] at h1; omega) (by omega) y hy
theorem bytesOf_byte (t : ByteArray) : ∀ y ∈ bytesOf t, 0 ≤ y ∧ y < 256 := by
  intro y hy
  unfold bytesOf at hy
  obtain ⟨b, -, rfl⟩ := List.mem_map.1 hy
  have := b.toNat_lt
  omega
theorem encV_byte (q : Qy) (dims : Int) : bytesP (encV q dims, 0) := by
  intro y hy
  simp only at hy
  unfold encV at hy
  split at hy
  · rename_i h
    have ho := chk_ok h
    have ha := ho.a; have hab := ho.ab; have hb := ho.b; have hd := ho.d
    have hdims : ∀ i, i ≤ 4 → ∀ y ∈ dimsB q i, 0 ≤ y ∧ y < 256 := by
      intro i
      induction i with
      | zero => intro _ y hy; simp [dimsB] at hy
      | succ i ih =>
        intro hi y hy
        unfold dimsB at hy
        rcases List.mem_append.1 hy with hy | hy
        · exact ih (by omega) y hy
        · have hs := ho.size (show i < 4 by omega)
          unfold dimB at hy
          rcases List.mem_append.1 hy with hy | hy
          · cases q.G i <;> cases q.H i <;> simp at hy <;> omega
          · cases hH : q.H i
            · rw [hH] at hy; simp at hy
            · rw [hH] at hy
              simp only [if_true] at hy
              rcases List.mem_append.1 hy with hy | hy
              · exact numB_byte 10 _ (by omega) (by omega) (by omega) y hy
              · exact bytesOf_byte _ y hy
    unfold encB at hy
    rcases List.mem_append.1 hy with hy | hy
    · rcases List.mem_append.1 hy with hy | hy
      · exact numB_byte 10 _ (by omega) (by omega) (by omega) y hy
      · exact numB_byte 10 _ (by omega) (by omega) (by omega) y hy
    · exact hdims _ (by omega) y hy
  · simp at hy
theorem encV_len (q : Qy) (dims : Int) : (encV q dims).length ≤ 140 := by
  unfold encV
  split
  · rename_i h
    have ho := chk_ok h
    have hd := ho.d
    exact encB_len ho (by omega)
  · simp
def aback.T6 : Bool × List (List Nat × List Nat) := (true, [([], []), ([0], [0]), ([1], [1]), ([2], [2]), ([2], [2]), ([3, 4, 2], [2, 3, 4]), ([2, 5], [2, 5]), ([6, 2], [6]), ([7], [7]), ([7], [7]), ([8, 9, 7, 7], [7, 8, 9]), ([7], [7]), ([10, 11, 10, 7], [7, 10, 11]), ([7], [7]), ([7], [7]), ([13, 14, 12, 7], [7, 13, 14]), ([15, 15, 7], [7, 15]), ([16], [16]), ([17, 16], [16, 17]), ([16], [16]), ([18, 19, 16], [16, 18, 19]), ([16, 20, 7], [7, 16, 20]), ([12, 21, 7], [7, 12, 21]), ([7, 22], [7, 22])])
def aback.B6 : List Nat := [0, 1, 3, 7, 7, 31, 63, 127, 255, 255, 1023, 255, 4095, 255, 255, 32767, 65535, 131071, 262143, 131071, 1048575, 2097151, 4194303, 8388607]
theorem aback.tab6 : rtab .any (opsOf Try.f14 6) = aback.T6 := by kernel_rfl
theorem aback.bits6 : waitsOk aback.T6.2 aback.B6 = true := by kernel_rfl
set_option maxHeartbeats 8000000 in
set_option maxRecDepth 100000 in
theorem AskBack_heavy.calls (q : Qy) (A0 : Option Addr) (c0 : Nat) (l : List Int) (dims fr : Int) (k : Ky) (w : World) (hC : Kd.C (Kd.int .u8) w A0 l.length l) (hc : l.length ≤ c0) (hl : light q = false) :
    Calls Try.prog 14 #[.agg q.cells, .slice A0 l.length c0, .int .i64 dims, .int .i64 fr, .agg k.cells] w fun e w' => e = .returned (.bool true) ∧ Below w.heap.size w w' := by
  have HQ := Aside0.mk ((QB.new q w).below ((Below.refl _ _).alloc (Nat.le_refl _) (.cells k.cells 60 (0, 0))))
  have HB := Aside0.mk (show Below w.heap.size w ((w.alloc (.cells q.cells 58 (0, 0))).alloc (.cells k.cells 60 (0, 0))) from ((Below.refl _ w).alloc (Nat.le_refl _) _).alloc (by simp) _)
  have HK := Aside0.mk (KB.mk (show ((w.alloc (.cells q.cells 58 (0, 0))).alloc (.cells k.cells 60 (0, 0))).heap[w.heap.size + 1]? = some (.cells k.cells 60 (0, 0)) by simpa using blk_new (w.alloc (.cells q.cells 58 (0, 0))) (.cells k.cells 60 (0, 0))))
  have HC := Aside0.mk (Kd.C_below (Kd.C_below hC ((Below.refl _ _).alloc (Nat.le_refl _) (.cells q.cells 58 (0, 0)))) ((Below.refl _ _).alloc (Nat.le_refl _) (.cells k.cells 60 (0, 0))))
  have hLi := Light.calls q
  unfold Qy.cells at HQ HB HK HC hLi ⊢
  unfold Ky.cells at HQ HB HK HC ⊢
  have HLi := Aside0.mk hLi
  clear hLi hC
  go_enter Try.func14, Try.ntmps14
  go_wp2_with fail
  refine (HLi.out _).mono ?_
  rw [hl]
  rintro e w2 ⟨rfl, hb⟩
  replace HB := Aside0.mk (below_step HB.out hb)
  replace HQ := Aside0.mk (HQ.out.below hb)
  replace HK := Aside0.mk (HK.out.below hb)
  replace HC := Aside0.mk (Kd.C_below HC.out hb)
  clear hb HLi
  go_wp2_with fail
  refine (alive13.calls _).mono ?_
  rintro e wa ⟨rfl, hb⟩
  have HBa := Aside0.mk (below_step HB.out hb)
  clear hb HB
  go_wp2
  go_ret
  exact ⟨rfl, HBa.out⟩
set_option maxHeartbeats 8000000 in
set_option maxRecDepth 100000 in
theorem AskBack_long.calls (q : Qy) (A0 : Option Addr) (c0 : Nat) (l : List Int) (dims fr : Int) (k : Ky) (w : World) (hC : Kd.C (Kd.int .u8) w A0 l.length l) (hc : l.length ≤ c0) (hl : light q = true) (hn : 200 < l.length) :
    Calls Try.prog 14 #[.agg q.cells, .slice A0 l.length c0, .int .i64 dims, .int .i64 fr, .agg k.cells] w fun e w' => e = .returned (.bool true) ∧ Below w.heap.size w w' := by
  have d1 : decide (200 < (l.length : Int)) = true := decide_eq_true (by omega)
  have d2 : decide ((l.length : Int) > 200) = true := decide_eq_true (by omega)
  have HQ := Aside0.mk ((QB.new q w).below ((Below.refl _ _).alloc (Nat.le_refl _) (.cells k.cells 60 (0, 0))))
  have HB := Aside0.mk (show Below w.heap.size w ((w.alloc (.cells q.cells 58 (0, 0))).alloc (.cells k.cells 60 (0, 0))) from ((Below.refl _ w).alloc (Nat.le_refl _) _).alloc (by simp) _)
  have HK := Aside0.mk (KB.mk (show ((w.alloc (.cells q.cells 58 (0, 0))).alloc (.cells k.cells 60 (0, 0))).heap[w.heap.size + 1]? = some (.cells k.cells 60 (0, 0)) by simpa using blk_new (w.alloc (.cells q.cells 58 (0, 0))) (.cells k.cells 60 (0, 0))))
  have HC := Aside0.mk (Kd.C_below (Kd.C_below hC ((Below.refl _ _).alloc (Nat.le_refl _) (.cells q.cells 58 (0, 0)))) ((Below.refl _ _).alloc (Nat.le_refl _) (.cells k.cells 60 (0, 0))))
  have hLi := Light.calls q
  unfold Qy.cells at HQ HB HK HC hLi ⊢
  unfold Ky.cells at HQ HB HK HC ⊢
  have HLi := Aside0.mk hLi
  clear hLi hC
  go_enter Try.func14, Try.ntmps14
  go_wp2_with fail
  refine (HLi.out _).mono ?_
  rw [hl]
  rintro e w2 ⟨rfl, hb⟩
  replace HB := Aside0.mk (below_step HB.out hb)
  replace HQ := Aside0.mk (HQ.out.below hb)
  replace HK := Aside0.mk (HK.out.below hb)
  replace HC := Aside0.mk (Kd.C_below HC.out hb)
  clear hb HLi
  go_wp2_with fail
  refine (alive13.calls _).mono ?_
  rintro e wa ⟨rfl, hb⟩
  have HBa := Aside0.mk (below_step HB.out hb)
  clear hb HB
  go_wp2
  go_ret
  exact ⟨rfl, HBa.out⟩
set_option maxHeartbeats 8000000 in
set_option maxRecDepth 100000 in
theorem AskBack_wrong.calls (q : Qy) (A0 : Option Addr) (c0 : Nat) (l : List Int) (dims fr : Int) (k : Ky) (w : World) (hC : Kd.C (Kd.int .u8) w A0 l.length l) (hc : l.length ≤ c0) (hl : light q = true) (hn : l.length ≤ 200) (hb0 : bytesP (l, 0)) (hk : chkQ q dims ≠ 0) :
    Calls Try.prog 14 #[.agg q.cells, .slice A0 l.length c0, .int .i64 dims, .int .i64 fr, .agg k.cells] w fun e w' => e = .returned (.bool true) ∧ Below w.heap.size w w' := by
  have d1 : decide (200 < (l.length : Int)) = false := decide_eq_false (by omega)
  have d2 : decide ((l.length : Int) > 200) = false := decide_eq_false (by omega)
  obtain ⟨rq, rf, h3⟩ : ∃ rq rf, readV l dims = (rq, rf) := ⟨_, _, rfl⟩
  have HR := Aside0.mk h3
  have HY := Aside0.mk hb0
  clear h3 hb0
  obtain ⟨c, h1⟩ : ∃ c, chkQ q dims = c := ⟨_, rfl⟩
  obtain ⟨L, h2⟩ : ∃ L, encV q dims = L := ⟨_, rfl⟩
  have HE := Aside0.mk (⟨h1, h2⟩ : chkQ q dims = c ∧ encV q dims = L)
  have g1 : (c == 0) = false := by rw [← h1]; simpa using hk
  clear h1 h2 hk
  have HQ := Aside0.mk ((QB.new q w).below ((Below.refl _ _).alloc (Nat.le_refl _) (.cells k.cells 60 (0, 0))))
  have HB := Aside0.mk (show Below w.heap.size w ((w.alloc (.cells q.cells 58 (0, 0))).alloc (.cells k.cells 60 (0, 0))) from ((Below.refl _ w).alloc (Nat.le_refl _) _).alloc (by simp) _)
  have HK := Aside0.mk (KB.mk (show ((w.alloc (.cells q.cells 58 (0, 0))).alloc (.cells k.cells 60 (0, 0))).heap[w.heap.size + 1]? = some (.cells k.cells 60 (0, 0)) by simpa using blk_new (w.alloc (.cells q.cells 58 (0, 0))) (.cells k.cells 60 (0, 0))))
  have HC := Aside0.mk (Kd.C_below (Kd.C_below hC ((Below.refl _ _).alloc (Nat.le_refl _) (.cells q.cells 58 (0, 0)))) ((Below.refl _ _).alloc (Nat.le_refl _) (.cells k.cells 60 (0, 0))))
  have hLi := Light.calls q
  unfold Qy.cells at HQ HB HK HC hLi ⊢
  unfold Ky.cells at HQ HB HK HC ⊢
  have HLi := Aside0.mk hLi
  clear hLi hC
  go_enter Try.func14, Try.ntmps14
  go_wp2_with fail
  refine (HLi.out _).mono ?_
  rw [hl]
  rintro e w2 ⟨rfl, hb⟩
  replace HB := Aside0.mk (below_step HB.out hb)
  replace HQ := Aside0.mk (HQ.out.below hb)
  replace HK := Aside0.mk (HK.out.below hb)
  replace HC := Aside0.mk (Kd.C_below HC.out hb)
  clear hb HLi
  obtain ⟨x0, x1, x2, x3, x4, x5, x6, x7, x8, x9, x10, x11, x12, x13⟩ := HQ.out.all
  go_wp2_with fail
  clear x0 x1 x2 x3 x4 x5 x6 x7 x8 x9 x10 x11 x12 x13
  refine (EncodeV.calls q dims c L _ HE.out.1 HE.out.2).mono ?_
  rintro e w3 ⟨v3, rfl, hr, hb⟩
  obtain ⟨A3, c3, rfl, hc3, hC3⟩ := Kd.R_reads hr
  have HC3 := Aside0.mk (⟨hC3, hc3⟩ : _ ∧ _)
  replace HQ := Aside0.mk (HQ.out.below hb)
  replace HK := Aside0.mk (HK.out.below hb)
  replace HC := Aside0.mk (Kd.C_below HC.out hb)
  replace HB := Aside0.mk (below_step HB.out hb)
  clear hr hb hC3 hc3
  clear HC3 HE
  clear HQ HK
  have hset := fun (W : World) => run_storeCells_new (P := Try.prog) W 58 #[.int .i64 0, .int .i64 0, .bool false, .bool false, .bool false, .bool false, .bool false, .bool false, .bool false, .bool false, .string { data := #[] }, .string { data := #[] }, .string { data := #[] }, .string { data := #[] }] rq.cells (by kernel_rfl) rfl (by simp [Qy.cells, Value.oneCell'])
  go_wp2_with fail
  refine (ReadV.calls A0 c0 l dims rq rf _ HC.out hc (by omega) HY.out HR.out).mono ?_
  rintro e v1 ⟨rfl, hb⟩
  replace HC := Aside0.mk (Kd.C_below (Kd.C_below HC.out hb) ((Below.refl _ _).alloc (Nat.le_refl _) (.cells rq.cells 58 (0, 0))))
  replace HB := Aside0.mk ((below_step HB.out hb).alloc (by have := HB.out.size; have := hb.size; omega) (.cells rq.cells 58 (0, 0)))
  have HP := Aside0.mk (QB.new rq v1)
  clear hb
  by_cases cf : rf = 0
  · subst cf
    have HI := Aside0.mk (read_inv HY.out HR.out)
    clear HR HY
    obtain ⟨x0, x1, x2, x3, x4, x5, x6, x7, x8, x9, x10, x11, x12, x13⟩ := HP.out.all
    go_wp2_with fail
    clear x0 x1 x2 x3 x4 x5 x6 x7 x8 x9 x10 x11 x12 x13 hset
    generalize v1.alloc _ = v2 at HC HB HP ⊢
    refine (EncodeV.calls rq dims 0 l _ HI.out.1 HI.out.2).mono ?_
    rintro e v3 ⟨y, rfl, hr, hb⟩
    obtain ⟨A7, c7, rfl, hc7, hC7⟩ := Kd.R_reads hr
    have HC7 := Aside0.mk (⟨hC7, hc7⟩ : _ ∧ _)
    replace HC := Aside0.mk (Kd.C_below HC.out hb)
    replace HB := Aside0.mk (below_step HB.out hb)
    clear hr hb hC7 hc7 HP HI
    go_wp2_with fail
    refine (ossuaryref01_Same.calls A7 c7 l A0 c0 l true _ HC7.out.1 HC7.out.2 HC.out hc (same_refl _)).mono ?_
    rintro e v4 ⟨rfl, hd⟩
    replace HB := Aside0.mk (below_step HB.out hd.below)
    clear hd HC HC7
    go_wp2_with fail
    refine (alive13.calls _).mono ?_
    rintro e wa ⟨rfl, hb⟩
    have HBa := Aside0.mk (below_step HB.out hb)
    clear hb HB
    go_wp2
    go_ret
    exact ⟨rfl, HBa.out⟩
  · have cfb : (rf != 0) = true := bne_iff_ne.mpr cf
    obtain rfl := read_bad HR.out cf
    clear HR HY HC
    have hek : ∀ W : World, (Op.equalIn 10000 58 (.agg #[.int .i64 0, .int .i64 0, .bool false, .bool false, .bool false, .bool false, .bool false, .bool false, .bool false, .bool false, .string { data := #[] }, .string { data := #[] }, .string { data := #[] }, .string { data := #[] }]) (.agg #[.int .i64 0, .int .i64 0, .bool false, .bool false, .bool false, .bool false, .bool false, .bool false, .bool false, .bool false, .string { data := #[] }, .string { data := #[] }, .string { data := #[] }, .string { data := #[] }])).run Try.prog W = .ok true W := fun W => eqQ 9997 W zQ
    have x0 : (v1.alloc (.cells zQ.cells 58 (0, 0))).cell? ⟨v1.heap.size, 0, none⟩ = some (.int .i64 0) := blk_cell HP.out.blk 0
    have x1 : (v1.alloc (.cells zQ.cells 58 (0, 0))).cell? ⟨v1.heap.size, 1, none⟩ = some (.int .i64 0) := blk_cell HP.out.blk 1
    have x2 : (v1.alloc (.cells zQ.cells 58 (0, 0))).cell? ⟨v1.heap.size, 2, none⟩ = some (.bool false) := blk_cell HP.out.blk 2
    have x3 : (v1.alloc (.cells zQ.cells 58 (0, 0))).cell? ⟨v1.heap.size, 3, none⟩ = some (.bool false) := blk_cell HP.out.blk 3
    have x4 : (v1.alloc (.cells zQ.cells 58 (0, 0))).cell? ⟨v1.heap.size, 4, none⟩ = some (.bool false) := blk_cell HP.out.blk 4
    have x5 : (v1.alloc (.cells zQ.cells 58 (0, 0))).cell? ⟨v1.heap.size, 5, none⟩ = some (.bool false) := blk_cell HP.out.blk 5
    have x6 : (v1.alloc (.cells zQ.cells 58 (0, 0))).cell? ⟨v1.heap.size, 6, none⟩ = some (.bool false) := blk_cell HP.out.blk 6
    have x7 : (v1.alloc (.cells zQ.cells 58 (0, 0))).cell? ⟨v1.heap.size, 7, none⟩ = some (.bool false) := blk_cell HP.out.blk 7
    have x8 : (v1.alloc (.cells zQ.cells 58 (0, 0))).cell? ⟨v1.heap.size, 8, none⟩ = some (.bool false) := blk_cell HP.out.blk 8
    have x9 : (v1.alloc (.cells zQ.cells 58 (0, 0))).cell? ⟨v1.heap.size, 9, none⟩ = some (.bool false) := blk_cell HP.out.blk 9
    have x10 : (v1.alloc (.cells zQ.cells 58 (0, 0))).cell? ⟨v1.heap.size, 10, none⟩ = some (.string { data := #[] }) := blk_cell HP.out.blk 10
    have x11 : (v1.alloc (.cells zQ.cells 58 (0, 0))).cell? ⟨v1.heap.size, 11, none⟩ = some (.string { data := #[] }) := blk_cell HP.out.blk 11
    have x12 : (v1.alloc (.cells zQ.cells 58 (0, 0))).cell? ⟨v1.heap.size, 12, none⟩ = some (.string { data := #[] }) := blk_cell HP.out.blk 12
    have x13 : (v1.alloc (.cells zQ.cells 58 (0, 0))).cell? ⟨v1.heap.size, 13, none⟩ = some (.string { data := #[] }) := blk_cell HP.out.blk 13
    go_wp2_with fail
    clear x0 x1 x2 x3 x4 x5 x6 x7 x8 x9 x10 x11 x12 x13 hset hek
    generalize v1.alloc _ = v2 at HB ⊢
    go_wp2_with fail
    refine (alive13.calls _).mono ?_
    rintro e wa ⟨rfl, hb⟩
    have HBa := Aside0.mk (below_step HB.out hb)
    clear hb HB
    go_wp2
    go_ret
    exact ⟨rfl, HBa.out⟩
set_option maxHeartbeats 8000000 in
set_option maxRecDepth 100000 in
theorem AskBack_ok.calls (q : Qy) (A0 : Option Addr) (c0 : Nat) (l : List Int) (dims fr : Int) (k : Ky) (w : World) (hC : Kd.C (Kd.int .u8) w A0 l.length l) (hc : l.length ≤ c0) (hl : light q = true) (hn : l.length ≤ 200) (hb0 : bytesP (l, 0)) (hk : chkQ q dims = 0) (r2 : Bool) (hm : matV q k = r2) :
    Calls Try.prog 14 #[.agg q.cells, .slice A0 l.length c0, .int .i64 dims, .int .i64 fr, .agg k.cells] w fun e w' => e = .returned (.bool true) ∧ Below w.heap.size w w' := by
  have d1 : decide (200 < (l.length : Int)) = false := decide_eq_false (by omega)
  have d2 : decide ((l.length : Int) > 200) = false := decide_eq_false (by omega)
  obtain ⟨rq, rf, h3⟩ : ∃ rq rf, readV l dims = (rq, rf) := ⟨_, _, rfl⟩
  have HR := Aside0.mk h3
  have HY := Aside0.mk hb0
  clear h3 hb0
  have g1 : ((0 : Int) == 0) = true := rfl
  obtain ⟨L, h2⟩ : ∃ L, encV q dims = L := ⟨_, rfl⟩
  obtain ⟨p, hp1, hp2⟩ := read_back hk
  have HE := Aside0.mk (⟨hk, h2⟩ : chkQ q dims = 0 ∧ encV q dims = L)
  have HN := Aside0.mk (⟨by rw [← h2]; exact encV_len q dims, by rw [← h2]; exact encV_byte q dims, by rw [← h2]; exact hp1, hp2⟩ : L.length ≤ 140 ∧ bytesP (L, 0) ∧ readV L dims = (p, 0) ∧ p.cells = q.cells)
  clear h2 hk hp1 hp2
  have HQ := Aside0.mk ((QB.new q w).below ((Below.refl _ _).alloc (Nat.le_refl _) (.cells k.cells 60 (0, 0))))
  have HB := Aside0.mk (show Below w.heap.size w ((w.alloc (.cells q.cells 58 (0, 0))).alloc (.cells k.cells 60 (0, 0))) from ((Below.refl _ w).alloc (Nat.le_refl _) _).alloc (by simp) _)
  have HK := Aside0.mk (KB.mk (show ((w.alloc (.cells q.cells 58 (0, 0))).alloc (.cells k.cells 60 (0, 0))).heap[w.heap.size + 1]? = some (.cells k.cells 60 (0, 0)) by simpa using blk_new (w.alloc (.cells q.cells 58 (0, 0))) (.cells k.cells 60 (0, 0))))
  have HC := Aside0.mk (Kd.C_below (Kd.C_below hC ((Below.refl _ _).alloc (Nat.le_refl _) (.cells q.cells 58 (0, 0)))) ((Below.refl _ _).alloc (Nat.le_refl _) (.cells k.cells 60 (0, 0))))
  have hLi := Light.calls q
  unfold Qy.cells at HQ HB HK HC hLi ⊢
  unfold Ky.cells at HQ HB HK HC ⊢
  have HLi := Aside0.mk hLi
  clear hLi hC
  go_enter Try.func14, Try.ntmps14
  go_wp2_with fail
  refine (HLi.out _).mono ?_
  rw [hl]
  rintro e w2 ⟨rfl, hb⟩
  replace HB := Aside0.mk (below_step HB.out hb)
  replace HQ := Aside0.mk (HQ.out.below hb)
  replace HK := Aside0.mk (HK.out.below hb)
  replace HC := Aside0.mk (Kd.C_below HC.out hb)
  clear hb HLi
  obtain ⟨x0, x1, x2, x3, x4, x5, x6, x7, x8, x9, x10, x11, x12, x13⟩ := HQ.out.all
  go_wp2_with fail
  clear x0 x1 x2 x3 x4 x5 x6 x7 x8 x9 x10 x11 x12 x13
  refine (EncodeV.calls q dims 0 L _ HE.out.1 HE.out.2).mono ?_
  rintro e w3 ⟨v3, rfl, hr, hb⟩
  obtain ⟨A3, c3, rfl, hc3, hC3⟩ := Kd.R_reads hr
  have HC3 := Aside0.mk (⟨hC3, hc3⟩ : _ ∧ _)
  replace HQ := Aside0.mk (HQ.out.below hb)
  replace HK := Aside0.mk (HK.out.below hb)
  replace HC := Aside0.mk (Kd.C_below HC.out hb)
  replace HB := Aside0.mk (below_step HB.out hb)
  clear hr hb hC3 hc3
  have hset := fun (W : World) => run_storeCells_new (P := Try.prog) W 58 #[.int .i64 0, .int .i64 0, .bool false, .bool false, .bool false, .bool false, .bool false, .bool false, .bool false, .bool false, .string { data := #[] }, .string { data := #[] }, .string { data := #[] }, .string { data := #[] }] p.cells (by kernel_rfl) rfl (by simp [Qy.cells, Value.oneCell'])
  go_wp2_with fail
  refine (ReadV.calls A3 c3 L dims p 0 _ HC3.out.1 HC3.out.2 (by have := HN.out.1; omega) HN.out.2.1 HN.out.2.2.1).mono ?_
  rintro e w5 ⟨rfl, hb⟩
  replace HQ := Aside0.mk (HQ.out.below hb)
  replace HK := Aside0.mk (HK.out.below hb)
  replace HC := Aside0.mk (Kd.C_below HC.out hb)
  replace HB := Aside0.mk (below_step HB.out hb)
  have HP := Aside0.mk ((QB.new p w5).eq HN.out.2.2.2)
  clear hb
  have hb := (Below.refl w5.heap.size w5).alloc (Nat.le_refl _) (.cells p.cells 58 (0, 0))
  replace HQ := Aside0.mk (HQ.out.below hb)
  replace HK := Aside0.mk (HK.out.below hb)
  replace HC := Aside0.mk (Kd.C_below HC.out hb)
  replace HB := Aside0.mk (below_step HB.out hb)
  clear hb HC3 HE HN
  have hek : ∀ W : World, (Op.equalIn 10000 58 (.agg #[.int .i64 q.a, .int .i64 q.b, .bool (q.G 0), .bool (q.G 1), .bool (q.G 2), .bool (q.G 3), .bool (q.H 0), .bool (q.H 1), .bool (q.H 2), .bool (q.H 3), .string (q.T 0), .string (q.T 1), .string (q.T 2), .string (q.T 3)]) (.agg #[.int .i64 q.a, .int .i64 q.b, .bool (q.G 0), .bool (q.G 1), .bool (q.G 2), .bool (q.G 3), .bool (q.H 0), .bool (q.H 1), .bool (q.H 2), .bool (q.H 3), .string (q.T 0), .string (q.T 1), .string (q.T 2), .string (q.T 3)])).run Try.prog W = .ok true W := fun W => eqQ 9997 W q
  have HM2 := Aside0.mk hm
  clear hm
  go_wp2_with fail
  clear hset
  replace HP := Aside0.mk (HP.out.below (below_drew1 (Below.refl _ _)))
  have hb := below_drew1 (Below.refl (w5.alloc (.cells p.cells 58 (0, 0))).heap.size (w5.alloc (.cells p.cells 58 (0, 0))))
  replace HQ := Aside0.mk (HQ.out.below hb)
  replace HK := Aside0.mk (HK.out.below hb)
  replace HC := Aside0.mk (Kd.C_below HC.out hb)
  replace HB := Aside0.mk (below_step HB.out hb)
  clear hb
  cases r2
  · have HM := Aside0.mk (⟨by rw [cut_mat, HM2.out]; rfl, HM2.out⟩ : matV (cutV q fr) k = false ∧ matV q k = false)
    clear HM2
    refine start_ (n := 24) (S := fun w' => w'.cell? ⟨w5.heap.size, 0, none⟩ = some (.int .i64 q.a) ∧ w'.cell? ⟨w5.heap.size, 1, none⟩ = some (.int .i64 q.b) ∧ w'.cell? ⟨w5.heap.size, 2, none⟩ = some (.bool (q.G 0)) ∧ w'.cell? ⟨w5.heap.size, 3, none⟩ = some (.bool (q.G 1)) ∧ w'.cell? ⟨w5.heap.size, 4, none⟩ = some (.bool (q.G 2)) ∧ w'.cell? ⟨w5.heap.size, 5, none⟩ = some (.bool (q.G 3)) ∧ w'.cell? ⟨w5.heap.size, 6, none⟩ = some (.bool (q.H 0)) ∧ w'.cell? ⟨w5.heap.size, 7, none⟩ = some (.bool (q.H 1)) ∧ w'.cell? ⟨w5.heap.size, 8, none⟩ = some (.bool (q.H 2)) ∧ w'.cell? ⟨w5.heap.size, 9, none⟩ = some (.bool (q.H 3)) ∧ w'.cell? ⟨w5.heap.size, 10, none⟩ = some (.string (q.T 0)) ∧ w'.cell? ⟨w5.heap.size, 11, none⟩ = some (.string (q.T 1)) ∧ w'.cell? ⟨w5.heap.size, 12, none⟩ = some (.string (q.T 2)) ∧ w'.cell? ⟨w5.heap.size, 13, none⟩ = some (.string (q.T 3)) ∧ w'.cell? ⟨w.heap.size, 0, none⟩ = some (.int .i64 q.a) ∧ w'.cell? ⟨w.heap.size, 1, none⟩ = some (.int .i64 q.b) ∧ w'.cell? ⟨w.heap.size, 2, none⟩ = some (.bool (q.G 0)) ∧ w'.cell? ⟨w.heap.size, 3, none⟩ = some (.bool (q.G 1)) ∧ w'.cell? ⟨w.heap.size, 4, none⟩ = some (.bool (q.G 2)) ∧ w'.cell? ⟨w.heap.size, 5, none⟩ = some (.bool (q.G 3)) ∧ w'.cell? ⟨w.heap.size, 6, none⟩ = some (.bool (q.H 0)) ∧ w'.cell? ⟨w.heap.size, 7, none⟩ = some (.bool (q.H 1)) ∧ w'.cell? ⟨w.heap.size, 8, none⟩ = some (.bool (q.H 2)) ∧ w'.cell? ⟨w.heap.size, 9, none⟩ = some (.bool (q.H 3)) ∧ w'.cell? ⟨w.heap.size, 10, none⟩ = some (.string (q.T 0)) ∧ w'.cell? ⟨w.heap.size, 11, none⟩ = some (.string (q.T 1)) ∧ w'.cell? ⟨w.heap.size, 12, none⟩ = some (.string (q.T 2)) ∧ w'.cell? ⟨w.heap.size, 13, none⟩ = some (.string (q.T 3)) ∧ w'.cell? ⟨w.heap.size + 1, 0, none⟩ = some (.int .i64 k.h) ∧ w'.cell? ⟨w.heap.size + 1, 1, none⟩ = some (.string (k.D 0)) ∧ w'.cell? ⟨w.heap.size + 1, 2, none⟩ = some (.string (k.D 1)) ∧ w'.cell? ⟨w.heap.size + 1, 3, none⟩ = some (.string (k.D 2)) ∧ w'.cell? ⟨w.heap.size + 1, 4, none⟩ = some (.string (k.D 3))) (ds := []) #[false, false, false, false, false, false, false, false, false, false, false, false, false, false, false, false, false, false, false, false, false, false, false, false] (by kernel_rfl) rfl rfl ⟨(blk_cell HP.out.blk 0), (blk_cell HP.out.blk 1), (blk_cell HP.out.blk 2), (blk_cell HP.out.blk 3), (blk_cell HP.out.blk 4), (blk_cell HP.out.blk 5), (blk_cell HP.out.blk 6), (blk_cell HP.out.blk 7), (blk_cell HP.out.blk 8), (blk_cell HP.out.blk 9), (blk_cell HP.out.blk 10), (blk_cell HP.out.blk 11), (blk_cell HP.out.blk 12), (blk_cell HP.out.blk 13), (blk_cell HQ.out.blk 0), (blk_cell HQ.out.blk 1), (blk_cell HQ.out.blk 2), (blk_cell HQ.out.blk 3), (blk_cell HQ.out.blk 4), (blk_cell HQ.out.blk 5), (blk_cell HQ.out.blk 6), (blk_cell HQ.out.blk 7), (blk_cell HQ.out.blk 8), (blk_cell HQ.out.blk 9), (blk_cell HQ.out.blk 10), (blk_cell HQ.out.blk 11), (blk_cell HQ.out.blk 12), (blk_cell HQ.out.blk 13), (blk_cell HK.out.blk 0), (blk_cell HK.out.blk 1), (blk_cell HK.out.blk 2), (blk_cell HK.out.blk 3), (blk_cell HK.out.blk 4)⟩ (fun hHeld => ?_)
    refine with_tabW aback.tab6 aback.bits6 (fun HT_ HW_ => ?_)
    generalize hW : (World.drew _) = W at HP HQ HK HC HB hHeld ⊢
    clear hW
    refine pure_ (i := 0) (N := some 42) (v := ?_) (a' := ?_) #[true, false, false, false, false, false, false, false, false, false, false, false, false, false, false, false, false, false, false, false, false, false, false, false] rfl rfl (any_of HT_.out (by kernel_rfl)) (fun _ _ _ h => h) (Or.inl ⟨by rfl, ?_⟩) ?_ ?_
    rotate_left
    · intro w'
      go_simp
      with_reducible rfl
    rotate_left
    · simp only [Act.put, List.setIfInBounds_toArray, List.set_cons_zero, List.set_cons_succ, i64_w, i32_w]
      rfl
    refine pure_ (i := 1) (N := some 43) (v := ?_) (a' := ?_) #[true, true, false, false, false, false, false, false, false, false, false, false, false, false, false, false, false, false, false, false, false, false, false, false] rfl rfl (any_of HT_.out (by kernel_rfl)) (fun _ _ _ h => h) (Or.inl ⟨by rfl, ?_⟩) ?_ ?_
    rotate_left
    · intro w'
      go_simp
      with_reducible rfl
    rotate_left
    · simp only [Act.put, List.setIfInBounds_toArray, List.set_cons_zero, List.set_cons_succ, i64_w, i32_w]
      rfl
    refine pure_ (i := 2) (N := some 44) (v := ?_) (a' := ?_) #[true, true, true, false, false, false, false, false, false, false, false, false, false, false, false, false, false, false, false, false, false, false, false, false] rfl rfl (any_of HT_.out (by kernel_rfl)) (fun _ _ _ h => h) (Or.inl ⟨by rfl, ?_⟩) ?_ ?_
    rotate_left
    · intro w'
      go_simp
      with_reducible rfl
    rotate_left
    · simp only [Act.put, List.setIfInBounds_toArray, List.set_cons_zero, List.set_cons_succ, i64_w, i32_w]
      rfl
    refine take_ (i := 3) (N := some 45) (v := ?_) (a' := ?_) #[true, true, true, true, false, false, false, false, false, false, false, false, false, false, false, false, false, false, false, false, false, false, false, false] rfl rfl (take_ofW HT_.out HW_.out (by kernel_rfl)) (fun _ _ _ h => h) (Or.inl ⟨by rfl, ?_⟩) hHeld ?_ ?_
    rotate_left
    · rintro w' ⟨s0, s1, s2, s3, s4, s5, s6, s7, s8, s9, s10, s11, s12, s13, s14, s15, s16, s17, s18, s19, s20, s21, s22, s23, s24, s25, s26, s27, s28, s29, s30, s31, s32⟩
      go_simp
      with_reducible rfl
    rotate_left
    · simp only [Act.put, List.setIfInBounds_toArray, List.set_cons_zero, List.set_cons_succ, i64_w, i32_w]
      rfl
    refine take_ (i := 4) (N := some 46) (v := ?_) (a' := ?_) #[true, true, true, true, true, false, false, false, false, false, false, false, false, false, false, false, false, false, false, false, false, false, false, false] rfl rfl (take_ofW HT_.out HW_.out (by kernel_rfl)) (fun _ _ _ h => h) (Or.inl ⟨by rfl, ?_⟩) hHeld ?_ ?_
    rotate_left
    · rintro w' ⟨s0, s1, s2, s3, s4, s5, s6, s7, s8, s9, s10, s11, s12, s13, s14, s15, s16, s17, s18, s19, s20, s21, s22, s23, s24, s25, s26, s27, s28, s29, s30, s31, s32⟩
      go_simp
      with_reducible rfl
    rotate_left
    · simp only [Act.put, List.setIfInBounds_toArray, List.set_cons_zero, List.set_cons_succ, i64_w, i32_w]
      rfl
    refine pure_ (i := 5) (N := some 47) (v := ?_) (a' := ?_) #[true, true, true, true, true, true, false, false, false, false, false, false, false, false, false, false, false, false, false, false, false, false, false, false] rfl rfl (any_of HT_.out (by kernel_rfl)) (fun _ _ _ h => h) (Or.inl ⟨by rfl, ?_⟩) ?_ ?_
    rotate_left
    · intro w'
      go_simp
      with_reducible rfl
    rotate_left
    · simp only [Act.put, List.setIfInBounds_toArray, List.set_cons_zero, List.set_cons_succ, i64_w, i32_w]
      rfl
    refine pure_ (i := 6) (N := some 48) (v := ?_) (a' := ?_) #[true, true, true, true, true, true, true, false, false, false, false, false, false, false, false, false, false, false, false, false, false, false, false, false] rfl rfl (any_of HT_.out (by kernel_rfl)) (fun _ _ _ h => h) (Or.inl ⟨by rfl, ?_⟩) ?_ ?_
    rotate_left
    · intro w'
      go_simp
      with_reducible rfl
    rotate_left
    · simp only [Act.put, List.setIfInBounds_toArray, List.set_cons_zero, List.set_cons_succ, i64_w, i32_w]
      rfl
    refine pure_ (i := 7) (N := some 49) (v := ?_) (a' := ?_) #[true, true, true, true, true, true, true, true, false, false, false, false, false, false, false, false, false, false, false, false, false, false, false, false] rfl rfl (any_of HT_.out (by kernel_rfl)) (fun _ _ _ h => h) (Or.inl ⟨by rfl, ?_⟩) ?_ ?_
    rotate_left
    · intro w'
      go_simp
      with_reducible rfl
    rotate_left
    · simp only [Act.put, List.setIfInBounds_toArray, List.set_cons_zero, List.set_cons_succ, i64_w, i32_w]
      rfl
    refine pure_ (i := 9) (N := some 51) (v := ?_) (a' := ?_) #[true, true, true, true, true, true, true, true, false, true, false, false, false, false, false, false, false, false, false, false, false, false, false, false] rfl rfl (any_of HT_.out (by kernel_rfl)) (fun _ _ _ h => h) (Or.inl ⟨by rfl, ?_⟩) ?_ ?_
    rotate_left
    · intro w'
      go_simp
      with_reducible rfl
    rotate_left
    · simp only [Act.put, List.setIfInBounds_toArray, List.set_cons_zero, List.set_cons_succ, i64_w, i32_w]
      rfl
    refine take_ (i := 8) (N := some 50) (v := ?_) (a' := ?_) #[true, true, true, true, true, true, true, true, true, true, false, false, false, false, false, false, false, false, false, false, false, false, false, false] rfl rfl (take_ofW HT_.out HW_.out (by kernel_rfl)) (fun _ _ _ h => h) (Or.inl ⟨by rfl, ?_⟩) hHeld ?_ ?_
    rotate_left
    · rintro w' ⟨s0, s1, s2, s3, s4, s5, s6, s7, s8, s9, s10, s11, s12, s13, s14, s15, s16, s17, s18, s19, s20, s21, s22, s23, s24, s25, s26, s27, s28, s29, s30, s31, s32⟩
      go_simp
      with_reducible rfl
    rotate_left
    · simp only [Act.put, List.setIfInBounds_toArray, List.set_cons_zero, List.set_cons_succ, i64_w, i32_w]
      rfl
    refine take_ (i := 11) (N := some 53) (v := ?_) (a' := ?_) #[true, true, true, true, true, true, true, true, true, true, false, true, false, false, false, false, false, false, false, false, false, false, false, false] rfl rfl (take_ofW HT_.out HW_.out (by kernel_rfl)) (fun _ _ _ h => h) (Or.inl ⟨by rfl, ?_⟩) hHeld ?_ ?_
    rotate_left
    · rintro w' ⟨s0, s1, s2, s3, s4, s5, s6, s7, s8, s9, s10, s11, s12, s13, s14, s15, s16, s17, s18, s19, s20, s21, s22, s23, s24, s25, s26, s27, s28, s29, s30, s31, s32⟩
      go_simp
      with_reducible rfl
    rotate_left
    · simp only [Act.put, List.setIfInBounds_toArray, List.set_cons_zero, List.set_cons_succ, i64_w, i32_w]
      rfl
    refine take_ (i := 13) (N := some 55) (v := ?_) (a' := ?_) #[true, true, true, true, true, true, true, true, true, true, false, true, false, true, false, false, false, false, false, false, false, false, false, false] rfl rfl (take_ofW HT_.out HW_.out (by kernel_rfl)) (fun _ _ _ h => h) (Or.inl ⟨by rfl, ?_⟩) hHeld ?_ ?_
    rotate_left
    · rintro w' ⟨s0, s1, s2, s3, s4, s5, s6, s7, s8, s9, s10, s11, s12, s13, s14, s15, s16, s17, s18, s19, s20, s21, s22, s23, s24, s25, s26, s27, s28, s29, s30, s31, s32⟩
      go_simp
      with_reducible rfl
    rotate_left
    · simp only [Act.put, List.setIfInBounds_toArray, List.set_cons_zero, List.set_cons_succ, i64_w, i32_w]
      rfl
    refine take_ (i := 14) (N := some 56) (v := ?_) (a' := ?_) #[true, true, true, true, true, true, true, true, true, true, false, true, false, true, true, false, false, false, false, false, false, false, false, false] rfl rfl (take_ofW HT_.out HW_.out (by kernel_rfl)) (fun _ _ _ h => h) (Or.inl ⟨by rfl, ?_⟩) hHeld ?_ ?_
    rotate_left
    · rintro w' ⟨s0, s1, s2, s3, s4, s5, s6, s7, s8, s9, s10, s11, s12, s13, s14, s15, s16, s17, s18, s19, s20, s21, s22, s23, s24, s25, s26, s27, s28, s29, s30, s31, s32⟩
      go_simp
      with_reducible rfl
    rotate_left
    · simp only [Act.put, List.setIfInBounds_toArray, List.set_cons_zero, List.set_cons_succ, i64_w, i32_w]
      rfl
    refine one_ (i := 10) (N := some 52) #[true, true, true, true, true, true, true, true, true, true, true, true, false, true, true, false, false, false, false, false, false, false, false, false] rfl rfl (one_of HT_.out (by kernel_rfl)) (by decide) (fun K hK => ?_)
    refine goes_ Try.func59 (by kernel_rfl) rfl #[.agg #[.int .i64 q.a, .int .i64 q.b, .bool (q.G 0), .bool (q.G 1), .bool (q.G 2), .bool (q.G 3), .bool (q.H 0), .bool (q.H 1), .bool (q.H 2), .bool (q.H 3), .string (q.T 0), .string (q.T 1), .string (q.T 2), .string (q.T 3)], .int .i64 fr] (by rfl) rfl rfl (by (try simp only [List.map_toArray, List.map_cons, List.map_nil]); first | done | rfl) ?_
    refine (Cut.calls q fr _).mono ?_
    rintro e u1 ⟨rfl, hb⟩
    refine ⟨_, rfl, ?_⟩
    replace HQ := Aside0.mk (HQ.out.below hb)
    replace HK := Aside0.mk (HK.out.below hb)
    replace HP := Aside0.mk (HP.out.below hb)
    replace HC := Aside0.mk (Kd.C_below HC.out hb)
    replace HB := Aside0.mk (below_step HB.out hb)
    clear hb
    refine hK.out _ _ ⟨(blk_cell HP.out.blk 0), (blk_cell HP.out.blk 1), (blk_cell HP.out.blk 2), (blk_cell HP.out.blk 3), (blk_cell HP.out.blk 4), (blk_cell HP.out.blk 5), (blk_cell HP.out.blk 6), (blk_cell HP.out.blk 7), (blk_cell HP.out.blk 8), (blk_cell HP.out.blk 9), (blk_cell HP.out.blk 10), (blk_cell HP.out.blk 11), (blk_cell HP.out.blk 12), (blk_cell HP.out.blk 13), (blk_cell HQ.out.blk 0), (blk_cell HQ.out.blk 1), (blk_cell HQ.out.blk 2), (blk_cell HQ.out.blk 3), (blk_cell HQ.out.blk 4), (blk_cell HQ.out.blk 5), (blk_cell HQ.out.blk 6), (blk_cell HQ.out.blk 7), (blk_cell HQ.out.blk 8), (blk_cell HQ.out.blk 9), (blk_cell HQ.out.blk 10), (blk_cell HQ.out.blk 11), (blk_cell HQ.out.blk 12), (blk_cell HQ.out.blk 13), (blk_cell HK.out.blk 0), (blk_cell HK.out.blk 1), (blk_cell HK.out.blk 2), (blk_cell HK.out.blk 3), (blk_cell HK.out.blk 4)⟩ (fun hHeld => ?_)
    clear hK K
    refine norm_ (a' := ?_) ?_ ?_
    rotate_left
    · show Act.put _ (some 52) _ = _
      simp only [Act.put, List.setIfInBounds_toArray, List.set_cons_zero, List.set_cons_succ, i64_w, i32_w]
      rfl
    refine one_ (i := 12) (N := some 54) #[true, true, true, true, true, true, true, true, true, true, true, true, true, true, true, false, false, false, false, false, false, false, false, false] rfl rfl (one_of HT_.out (by kernel_rfl)) (by decide) (fun K hK => ?_)
    refine goes_ Try.func40 (by kernel_rfl) rfl #[.agg (cutV q fr).cells, .agg #[.int .i64 k.h, .string (k.D 0), .string (k.D 1), .string (k.D 2), .string (k.D 3)]] (by rfl) rfl rfl (by (try simp only [List.map_toArray, List.map_cons, List.map_nil]); first | done | rfl) ?_
    refine (Matches.calls (cutV q fr) k false _ HM.out.1).mono ?_
    rintro e u2 ⟨rfl, hb⟩
    refine ⟨_, rfl, ?_⟩
    replace HQ := Aside0.mk (HQ.out.below hb)
    replace HK := Aside0.mk (HK.out.below hb)
    replace HP := Aside0.mk (HP.out.below hb)
    replace HC := Aside0.mk (Kd.C_below HC.out hb)
    replace HB := Aside0.mk (below_step HB.out hb)
    clear hb
    refine hK.out _ _ ⟨(blk_cell HP.out.blk 0), (blk_cell HP.out.blk 1), (blk_cell HP.out.blk 2), (blk_cell HP.out.blk 3), (blk_cell HP.out.blk 4), (blk_cell HP.out.blk 5), (blk_cell HP.out.blk 6), (blk_cell HP.out.blk 7), (blk_cell HP.out.blk 8), (blk_cell HP.out.blk 9), (blk_cell HP.out.blk 10), (blk_cell HP.out.blk 11), (blk_cell HP.out.blk 12), (blk_cell HP.out.blk 13), (blk_cell HQ.out.blk 0), (blk_cell HQ.out.blk 1), (blk_cell HQ.out.blk 2), (blk_cell HQ.out.blk 3), (blk_cell HQ.out.blk 4), (blk_cell HQ.out.blk 5), (blk_cell HQ.out.blk 6), (blk_cell HQ.out.blk 7), (blk_cell HQ.out.blk 8), (blk_cell HQ.out.blk 9), (blk_cell HQ.out.blk 10), (blk_cell HQ.out.blk 11), (blk_cell HQ.out.blk 12), (blk_cell HQ.out.blk 13), (blk_cell HK.out.blk 0), (blk_cell HK.out.blk 1), (blk_cell HK.out.blk 2), (blk_cell HK.out.blk 3), (blk_cell HK.out.blk 4)⟩ (fun hHeld => ?_)
    clear hK K
    refine norm_ (a' := ?_) ?_ ?_
    rotate_left
    · show Act.put _ (some 54) _ = _
      simp only [Act.put, List.setIfInBounds_toArray, List.set_cons_zero, List.set_cons_succ, i64_w, i32_w]
      rfl
    refine one_ (i := 15) (N := some 57) #[true, true, true, true, true, true, true, true, true, true, true, true, true, true, true, true, false, false, false, false, false, false, false, false] rfl rfl (one_of HT_.out (by kernel_rfl)) (by decide) (fun K hK => ?_)
    refine goes_ Try.func40 (by kernel_rfl) rfl #[.agg #[.int .i64 q.a, .int .i64 q.b, .bool (q.G 0), .bool (q.G 1), .bool (q.G 2), .bool (q.G 3), .bool (q.H 0), .bool (q.H 1), .bool (q.H 2), .bool (q.H 3), .string (q.T 0), .string (q.T 1), .string (q.T 2), .string (q.T 3)], .agg #[.int .i64 k.h, .string (k.D 0), .string (k.D 1), .string (k.D 2), .string (k.D 3)]] (by rfl) rfl rfl (by (try simp only [List.map_toArray, List.map_cons, List.map_nil]); first | done | rfl) ?_
    refine (Matches.calls q k false _ HM.out.2).mono ?_
    rintro e u3 ⟨rfl, hb⟩
    refine ⟨_, rfl, ?_⟩
    replace HQ := Aside0.mk (HQ.out.below hb)
    replace HK := Aside0.mk (HK.out.below hb)
    replace HP := Aside0.mk (HP.out.below hb)
    replace HC := Aside0.mk (Kd.C_below HC.out hb)
    replace HB := Aside0.mk (below_step HB.out hb)
    clear hb
    refine hK.out _ _ ⟨(blk_cell HP.out.blk 0), (blk_cell HP.out.blk 1), (blk_cell HP.out.blk 2), (blk_cell HP.out.blk 3), (blk_cell HP.out.blk 4), (blk_cell HP.out.blk 5), (blk_cell HP.out.blk 6), (blk_cell HP.out.blk 7), (blk_cell HP.out.blk 8), (blk_cell HP.out.blk 9), (blk_cell HP.out.blk 10), (blk_cell HP.out.blk 11), (blk_cell HP.out.blk 12), (blk_cell HP.out.blk 13), (blk_cell HQ.out.blk 0), (blk_cell HQ.out.blk 1), (blk_cell HQ.out.blk 2), (blk_cell HQ.out.blk 3), (blk_cell HQ.out.blk 4), (blk_cell HQ.out.blk 5), (blk_cell HQ.out.blk 6), (blk_cell HQ.out.blk 7), (blk_cell HQ.out.blk 8), (blk_cell HQ.out.blk 9), (blk_cell HQ.out.blk 10), (blk_cell HQ.out.blk 11), (blk_cell HQ.out.blk 12), (blk_cell HQ.out.blk 13), (blk_cell HK.out.blk 0), (blk_cell HK.out.blk 1), (blk_cell HK.out.blk 2), (blk_cell HK.out.blk 3), (blk_cell HK.out.blk 4)⟩ (fun hHeld => ?_)
    clear hK K
    refine norm_ (a' := ?_) ?_ ?_
    rotate_left
    · show Act.put _ (some 57) _ = _
      simp only [Act.put, List.setIfInBounds_toArray, List.set_cons_zero, List.set_cons_succ, i64_w, i32_w]
      rfl
    refine pure_ (i := 16) (N := some 58) (v := ?_) (a' := ?_) #[true, true, true, true, true, true, true, true, true, true, true, true, true, true, true, true, true, false, false, false, false, false, false, false] rfl rfl (any_of HT_.out (by kernel_rfl)) (fun _ _ _ h => h) (Or.inl ⟨by rfl, ?_⟩) ?_ ?_
    rotate_left
    · intro w'
      go_simp
      with_reducible rfl
    rotate_left
    · simp only [Act.put, List.setIfInBounds_toArray, List.set_cons_zero, List.set_cons_succ, i64_w, i32_w]
      rfl
    refine pure_ (i := 17) (N := some 59) (v := undef) (a' := ?_) #[true, true, true, true, true, true, true, true, true, true, true, true, true, true, true, true, true, true, false, false, false, false, false, false] rfl rfl (any_of HT_.out (by kernel_rfl)) (fun _ _ _ h => h) (Or.inr ⟨by rfl, rfl⟩) ?_ ?_
    rotate_left
    · simp only [Act.put, List.setIfInBounds_toArray, List.set_cons_zero, List.set_cons_succ, i64_w, i32_w]
      rfl
    refine pure_ (i := 18) (N := some 60) (v := undef) (a' := ?_) #[true, true, true, true, true, true, true, true, true, true, true, true, true, true, true, true, true, true, true, false, false, false, false, false] rfl rfl (any_of HT_.out (by kernel_rfl)) (fun _ _ _ h => h) (Or.inr ⟨by rfl, rfl⟩) ?_ ?_
    rotate_left
    · simp only [Act.put, List.setIfInBounds_toArray, List.set_cons_zero, List.set_cons_succ, i64_w, i32_w]
      rfl
    refine pure_ (i := 19) (N := some 61) (v := undef) (a' := ?_) #[true, true, true, true, true, true, true, true, true, true, true, true, true, true, true, true, true, true, true, true, false, false, false, false] rfl rfl (any_of HT_.out (by kernel_rfl)) (fun _ _ _ h => h) (Or.inr ⟨by rfl, rfl⟩) ?_ ?_
    rotate_left
    · simp only [Act.put, List.setIfInBounds_toArray, List.set_cons_zero, List.set_cons_succ, i64_w, i32_w]
      rfl
    refine pure_ (i := 20) (N := some 62) (v := undef) (a' := ?_) #[true, true, true, true, true, true, true, true, true, true, true, true, true, true, true, true, true, true, true, true, true, false, false, false] rfl rfl (any_of HT_.out (by kernel_rfl)) (fun _ _ _ h => h) (Or.inr ⟨by rfl, rfl⟩) ?_ ?_
    rotate_left
    · simp only [Act.put, List.setIfInBounds_toArray, List.set_cons_zero, List.set_cons_succ, i64_w, i32_w]
      rfl
    refine pure_ (i := 21) (N := some 63) (v := ?_) (a' := ?_) #[true, true, true, true, true, true, true, true, true, true, true, true, true, true, true, true, true, true, true, true, true, true, false, false] rfl rfl (any_of HT_.out (by kernel_rfl)) (fun _ _ _ h => h) (Or.inl ⟨by rfl, ?_⟩) ?_ ?_
    rotate_left
    · intro w'
      go_simp
      with_reducible rfl
    rotate_left
    · simp only [Act.put, List.setIfInBounds_toArray, List.set_cons_zero, List.set_cons_succ, i64_w, i32_w]
      rfl
    refine pure_ (i := 22) (N := some 64) (v := ?_) (a' := ?_) #[true, true, true, true, true, true, true, true, true, true, true, true, true, true, true, true, true, true, true, true, true, true, true, false] rfl rfl (any_of HT_.out (by kernel_rfl)) (fun _ _ _ h => h) (Or.inl ⟨by rfl, ?_⟩) ?_ ?_
    rotate_left
    · intro w'
      go_simp
      with_reducible rfl
    rotate_left
    · simp only [Act.put, List.setIfInBounds_toArray, List.set_cons_zero, List.set_cons_succ, i64_w, i32_w]
      rfl
    refine pure_ (i := 23) (N := some 65) (v := ?_) (a' := ?_) #[true, true, true, true, true, true, true, true, true, true, true, true, true, true, true, true, true, true, true, true, true, true, true, true] rfl rfl (any_of HT_.out (by kernel_rfl)) (fun _ _ _ h => h) (Or.inl ⟨by rfl, ?_⟩) ?_ ?_
    rotate_left
    · intro w'
      go_simp
      with_reducible rfl
    rotate_left
    · simp only [Act.put, List.setIfInBounds_toArray, List.set_cons_zero, List.set_cons_succ, i64_w, i32_w]
      rfl
    refine done_ (done_of HT_.out (by kernel_rfl)) ?_

    clear hHeld hek HM HP
    clear HQ HK
    have hset := fun (W : World) => run_storeCells_new (P := Try.prog) W 58 #[.int .i64 0, .int .i64 0, .bool false, .bool false, .bool false, .bool false, .bool false, .bool false, .bool false, .bool false, .string { data := #[] }, .string { data := #[] }, .string { data := #[] }, .string { data := #[] }] rq.cells (by kernel_rfl) rfl (by simp [Qy.cells, Value.oneCell'])
    go_wp2_with fail
    refine (ReadV.calls A0 c0 l dims rq rf _ HC.out hc (by omega) HY.out HR.out).mono ?_
    rintro e v1 ⟨rfl, hb⟩
    replace HC := Aside0.mk (Kd.C_below (Kd.C_below HC.out hb) ((Below.refl _ _).alloc (Nat.le_refl _) (.cells rq.cells 58 (0, 0))))
    replace HB := Aside0.mk ((below_step HB.out hb).alloc (by have := HB.out.size; have := hb.size; omega) (.cells rq.cells 58 (0, 0)))
    have HP := Aside0.mk (QB.new rq v1)
    clear hb
    by_cases cf : rf = 0
    · subst cf
      have HI := Aside0.mk (read_inv HY.out HR.out)
      clear HR HY
      obtain ⟨x0, x1, x2, x3, x4, x5, x6, x7, x8, x9, x10, x11, x12, x13⟩ := HP.out.all
      go_wp2_with fail
      clear x0 x1 x2 x3 x4 x5 x6 x7 x8 x9 x10 x11 x12 x13 hset
      generalize v1.alloc _ = v2 at HC HB HP ⊢
      refine (EncodeV.calls rq dims 0 l _ HI.out.1 HI.out.2).mono ?_
      rintro e v3 ⟨y, rfl, hr, hb⟩
      obtain ⟨A7, c7, rfl, hc7, hC7⟩ := Kd.R_reads hr
      have HC7 := Aside0.mk (⟨hC7, hc7⟩ : _ ∧ _)
      replace HC := Aside0.mk (Kd.C_below HC.out hb)
      replace HB := Aside0.mk (below_step HB.out hb)
      clear hr hb hC7 hc7 HP HI
      go_wp2_with fail
      refine (ossuaryref01_Same.calls A7 c7 l A0 c0 l true _ HC7.out.1 HC7.out.2 HC.out hc (same_refl _)).mono ?_
      rintro e v4 ⟨rfl, hd⟩
      replace HB := Aside0.mk (below_step HB.out hd.below)
      clear hd HC HC7
      go_wp2_with fail
      refine (alive13.calls _).mono ?_
      rintro e wa ⟨rfl, hb⟩
      have HBa := Aside0.mk (below_step HB.out hb)
      clear hb HB
      go_wp2
      go_ret
      exact ⟨rfl, HBa.out⟩
    · have cfb : (rf != 0) = true := bne_iff_ne.mpr cf
      obtain rfl := read_bad HR.out cf
      clear HR HY HC
      have hek : ∀ W : World, (Op.equalIn 10000 58 (.agg #[.int .i64 0, .int .i64 0, .bool false, .bool false, .bool false, .bool false, .bool false, .bool false, .bool false, .bool false, .string { data := #[] }, .string { data := #[] }, .string { data := #[] }, .string { data := #[] }]) (.agg #[.int .i64 0, .int .i64 0, .bool false, .bool false, .bool false, .bool false, .bool false, .bool false, .bool false, .bool false, .string { data := #[] }, .string { data := #[] }, .string { data := #[] }, .string { data := #[] }])).run Try.prog W = .ok true W := fun W => eqQ 9997 W zQ
      have x0 : (v1.alloc (.cells zQ.cells 58 (0, 0))).cell? ⟨v1.heap.size, 0, none⟩ = some (.int .i64 0) := blk_cell HP.out.blk 0
      have x1 : (v1.alloc (.cells zQ.cells 58 (0, 0))).cell? ⟨v1.heap.size, 1, none⟩ = some (.int .i64 0) := blk_cell HP.out.blk 1
      have x2 : (v1.alloc (.cells zQ.cells 58 (0, 0))).cell? ⟨v1.heap.size, 2, none⟩ = some (.bool false) := blk_cell HP.out.blk 2
      have x3 : (v1.alloc (.cells zQ.cells 58 (0, 0))).cell? ⟨v1.heap.size, 3, none⟩ = some (.bool false) := blk_cell HP.out.blk 3
      have x4 : (v1.alloc (.cells zQ.cells 58 (0, 0))).cell? ⟨v1.heap.size, 4, none⟩ = some (.bool false) := blk_cell HP.out.blk 4
      have x5 : (v1.alloc (.cells zQ.cells 58 (0, 0))).cell? ⟨v1.heap.size, 5, none⟩ = some (.bool false) := blk_cell HP.out.blk 5
      have x6 : (v1.alloc (.cells zQ.cells 58 (0, 0))).cell? ⟨v1.heap.size, 6, none⟩ = some (.bool false) := blk_cell HP.out.blk 6
      have x7 : (v1.alloc (.cells zQ.cells 58 (0, 0))).cell? ⟨v1.heap.size, 7, none⟩ = some (.bool false) := blk_cell HP.out.blk 7
      have x8 : (v1.alloc (.cells zQ.cells 58 (0, 0))).cell? ⟨v1.heap.size, 8, none⟩ = some (.bool false) := blk_cell HP.out.blk 8
      have x9 : (v1.alloc (.cells zQ.cells 58 (0, 0))).cell? ⟨v1.heap.size, 9, none⟩ = some (.bool false) := blk_cell HP.out.blk 9
      have x10 : (v1.alloc (.cells zQ.cells 58 (0, 0))).cell? ⟨v1.heap.size, 10, none⟩ = some (.string { data := #[] }) := blk_cell HP.out.blk 10
      have x11 : (v1.alloc (.cells zQ.cells 58 (0, 0))).cell? ⟨v1.heap.size, 11, none⟩ = some (.string { data := #[] }) := blk_cell HP.out.blk 11
      have x12 : (v1.alloc (.cells zQ.cells 58 (0, 0))).cell? ⟨v1.heap.size, 12, none⟩ = some (.string { data := #[] }) := blk_cell HP.out.blk 12
      have x13 : (v1.alloc (.cells zQ.cells 58 (0, 0))).cell? ⟨v1.heap.size, 13, none⟩ = some (.string { data := #[] }) := blk_cell HP.out.blk 13
      go_wp2_with fail
      clear x0 x1 x2 x3 x4 x5 x6 x7 x8 x9 x10 x11 x12 x13 hset hek
      generalize v1.alloc _ = v2 at HB ⊢
      go_wp2_with fail
      refine (alive13.calls _).mono ?_
      rintro e wa ⟨rfl, hb⟩
      have HBa := Aside0.mk (below_step HB.out hb)
      clear hb HB
      go_wp2
      go_ret
      exact ⟨rfl, HBa.out⟩
  · obtain ⟨d, hd⟩ : ∃ d, decide (fr ≤ k.h) = d := ⟨_, rfl⟩
    have hd2 : decide (k.h ≥ fr) = d := hd
    have hdd : (d != d) = false := by cases d <;> rfl
    have HM := Aside0.mk (⟨by rw [cut_mat, HM2.out, hd]; rfl, HM2.out⟩ : matV (cutV q fr) k = d ∧ matV q k = true)
    clear HM2
    refine start_ (n := 24) (S := fun w' => w'.cell? ⟨w5.heap.size, 0, none⟩ = some (.int .i64 q.a) ∧ w'.cell? ⟨w5.heap.size, 1, none⟩ = some (.int .i64 q.b) ∧ w'.cell? ⟨w5.heap.size, 2, none⟩ = some (.bool (q.G 0)) ∧ w'.cell? ⟨w5.heap.size, 3, none⟩ = some (.bool (q.G 1)) ∧ w'.cell? ⟨w5.heap.size, 4, none⟩ = some (.bool (q.G 2)) ∧ w'.cell? ⟨w5.heap.size, 5, none⟩ = some (.bool (q.G 3)) ∧ w'.cell? ⟨w5.heap.size, 6, none⟩ = some (.bool (q.H 0)) ∧ w'.cell? ⟨w5.heap.size, 7, none⟩ = some (.bool (q.H 1)) ∧ w'.cell? ⟨w5.heap.size, 8, none⟩ = some (.bool (q.H 2)) ∧ w'.cell? ⟨w5.heap.size, 9, none⟩ = some (.bool (q.H 3)) ∧ w'.cell? ⟨w5.heap.size, 10, none⟩ = some (.string (q.T 0)) ∧ w'.cell? ⟨w5.heap.size, 11, none⟩ = some (.string (q.T 1)) ∧ w'.cell? ⟨w5.heap.size, 12, none⟩ = some (.string (q.T 2)) ∧ w'.cell? ⟨w5.heap.size, 13, none⟩ = some (.string (q.T 3)) ∧ w'.cell? ⟨w.heap.size, 0, none⟩ = some (.int .i64 q.a) ∧ w'.cell? ⟨w.heap.size, 1, none⟩ = some (.int .i64 q.b) ∧ w'.cell? ⟨w.heap.size, 2, none⟩ = some (.bool (q.G 0)) ∧ w'.cell? ⟨w.heap.size, 3, none⟩ = some (.bool (q.G 1)) ∧ w'.cell? ⟨w.heap.size, 4, none⟩ = some (.bool (q.G 2)) ∧ w'.cell? ⟨w.heap.size, 5, none⟩ = some (.bool (q.G 3)) ∧ w'.cell? ⟨w.heap.size, 6, none⟩ = some (.bool (q.H 0)) ∧ w'.cell? ⟨w.heap.size, 7, none⟩ = some (.bool (q.H 1)) ∧ w'.cell? ⟨w.heap.size, 8, none⟩ = some (.bool (q.H 2)) ∧ w'.cell? ⟨w.heap.size, 9, none⟩ = some (.bool (q.H 3)) ∧ w'.cell? ⟨w.heap.size, 10, none⟩ = some (.string (q.T 0)) ∧ w'.cell? ⟨w.heap.size, 11, none⟩ = some (.string (q.T 1)) ∧ w'.cell? ⟨w.heap.size, 12, none⟩ = some (.string (q.T 2)) ∧ w'.cell? ⟨w.heap.size, 13, none⟩ = some (.string (q.T 3)) ∧ w'.cell? ⟨w.heap.size + 1, 0, none⟩ = some (.int .i64 k.h) ∧ w'.cell? ⟨w.heap.size + 1, 1, none⟩ = some (.string (k.D 0)) ∧ w'.cell? ⟨w.heap.size + 1, 2, none⟩ = some (.string (k.D 1)) ∧ w'.cell? ⟨w.heap.size + 1, 3, none⟩ = some (.string (k.D 2)) ∧ w'.cell? ⟨w.heap.size + 1, 4, none⟩ = some (.string (k.D 3))) (ds := []) #[false, false, false, false, false, false, false, false, false, false, false, false, false, false, false, false, false, false, false, false, false, false, false, false] (by kernel_rfl) rfl rfl ⟨(blk_cell HP.out.blk 0), (blk_cell HP.out.blk 1), (blk_cell HP.out.blk 2), (blk_cell HP.out.blk 3), (blk_cell HP.out.blk 4), (blk_cell HP.out.blk 5), (blk_cell HP.out.blk 6), (blk_cell HP.out.blk 7), (blk_cell HP.out.blk 8), (blk_cell HP.out.blk 9), (blk_cell HP.out.blk 10), (blk_cell HP.out.blk 11), (blk_cell HP.out.blk 12), (blk_cell HP.out.blk 13), (blk_cell HQ.out.blk 0), (blk_cell HQ.out.blk 1), (blk_cell HQ.out.blk 2), (blk_cell HQ.out.blk 3), (blk_cell HQ.out.blk 4), (blk_cell HQ.out.blk 5), (blk_cell HQ.out.blk 6), (blk_cell HQ.out.blk 7), (blk_cell HQ.out.blk 8), (blk_cell HQ.out.blk 9), (blk_cell HQ.out.blk 10), (blk_cell HQ.out.blk 11), (blk_cell HQ.out.blk 12), (blk_cell HQ.out.blk 13), (blk_cell HK.out.blk 0), (blk_cell HK.out.blk 1), (blk_cell HK.out.blk 2), (blk_cell HK.out.blk 3), (blk_cell HK.out.blk 4)⟩ (fun hHeld => ?_)
    refine with_tabW aback.tab6 aback.bits6 (fun HT_ HW_ => ?_)
    generalize hW : (World.drew _) = W at HP HQ HK HC HB hHeld ⊢
    clear hW
    refine pure_ (i := 0) (N := some 42) (v := ?_) (a' := ?_) #[true, false, false, false, false, false, false, false, false, false, false, false, false, false, false, false, false, false, false, false, false, false, false, false] rfl rfl (any_of HT_.out (by kernel_rfl)) (fun _ _ _ h => h) (Or.inl ⟨by rfl, ?_⟩) ?_ ?_
    rotate_left
    · intro w'
      go_simp
      with_reducible rfl
    rotate_left
    · simp only [Act.put, List.setIfInBounds_toArray, List.set_cons_zero, List.set_cons_succ, i64_w, i32_w]
      rfl
    refine pure_ (i := 1) (N := some 43) (v := ?_) (a' := ?_) #[true, true, false, false, false, false, false, false, false, false, false, false, false, false, false, false, false, false, false, false, false, false, false, false] rfl rfl (any_of HT_.out (by kernel_rfl)) (fun _ _ _ h => h) (Or.inl ⟨by rfl, ?_⟩) ?_ ?_
    rotate_left
    · intro w'
      go_simp
      with_reducible rfl
    rotate_left
    · simp only [Act.put, List.setIfInBounds_toArray, List.set_cons_zero, List.set_cons_succ, i64_w, i32_w]
      rfl
    refine pure_ (i := 2) (N := some 44) (v := ?_) (a' := ?_) #[true, true, true, false, false, false, false, false, false, false, false, false, false, false, false, false, false, false, false, false, false, false, false, false] rfl rfl (any_of HT_.out (by kernel_rfl)) (fun _ _ _ h => h) (Or.inl ⟨by rfl, ?_⟩) ?_ ?_
    rotate_left
    · intro w'
      go_simp
      with_reducible rfl
    rotate_left
    · simp only [Act.put, List.setIfInBounds_toArray, List.set_cons_zero, List.set_cons_succ, i64_w, i32_w]
      rfl
    refine take_ (i := 3) (N := some 45) (v := ?_) (a' := ?_) #[true, true, true, true, false, false, false, false, false, false, false, false, false, false, false, false, false, false, false, false, false, false, false, false] rfl rfl (take_ofW HT_.out HW_.out (by kernel_rfl)) (fun _ _ _ h => h) (Or.inl ⟨by rfl, ?_⟩) hHeld ?_ ?_
    rotate_left
    · rintro w' ⟨s0, s1, s2, s3, s4, s5, s6, s7, s8, s9, s10, s11, s12, s13, s14, s15, s16, s17, s18, s19, s20, s21, s22, s23, s24, s25, s26, s27, s28, s29, s30, s31, s32⟩
      go_simp
      with_reducible rfl
    rotate_left
    · simp only [Act.put, List.setIfInBounds_toArray, List.set_cons_zero, List.set_cons_succ, i64_w, i32_w]
      rfl
    refine take_ (i := 4) (N := some 46) (v := ?_) (a' := ?_) #[true, true, true, true, true, false, false, false, false, false, false, false, false, false, false, false, false, false, false, false, false, false, false, false] rfl rfl (take_ofW HT_.out HW_.out (by kernel_rfl)) (fun _ _ _ h => h) (Or.inl ⟨by rfl, ?_⟩) hHeld ?_ ?_
    rotate_left
    · rintro w' ⟨s0, s1, s2, s3, s4, s5, s6, s7, s8, s9, s10, s11, s12, s13, s14, s15, s16, s17, s18, s19, s20, s21, s22, s23, s24, s25, s26, s27, s28, s29, s30, s31, s32⟩
      go_simp
      with_reducible rfl
    rotate_left
    · simp only [Act.put, List.setIfInBounds_toArray, List.set_cons_zero, List.set_cons_succ, i64_w, i32_w]
      rfl
    refine pure_ (i := 5) (N := some 47) (v := ?_) (a' := ?_) #[true, true, true, true, true, true, false, false, false, false, false, false, false, false, false, false, false, false, false, false, false, false, false, false] rfl rfl (any_of HT_.out (by kernel_rfl)) (fun _ _ _ h => h) (Or.inl ⟨by rfl, ?_⟩) ?_ ?_
    rotate_left
    · intro w'
      go_simp
      with_reducible rfl
    rotate_left
    · simp only [Act.put, List.setIfInBounds_toArray, List.set_cons_zero, List.set_cons_succ, i64_w, i32_w]
      rfl
    refine pure_ (i := 6) (N := some 48) (v := ?_) (a' := ?_) #[true, true, true, true, true, true, true, false, false, false, false, false, false, false, false, false, false, false, false, false, false, false, false, false] rfl rfl (any_of HT_.out (by kernel_rfl)) (fun _ _ _ h => h) (Or.inl ⟨by rfl, ?_⟩) ?_ ?_
    rotate_left
    · intro w'
      go_simp
      with_reducible rfl
    rotate_left
    · simp only [Act.put, List.setIfInBounds_toArray, List.set_cons_zero, List.set_cons_succ, i64_w, i32_w]
      rfl
    refine pure_ (i := 7) (N := some 49) (v := ?_) (a' := ?_) #[true, true, true, true, true, true, true, true, false, false, false, false, false, false, false, false, false, false, false, false, false, false, false, false] rfl rfl (any_of HT_.out (by kernel_rfl)) (fun _ _ _ h => h) (Or.inl ⟨by rfl, ?_⟩) ?_ ?_
    rotate_left
    · intro w'
      go_simp
      with_reducible rfl
    rotate_left
    · simp only [Act.put, List.setIfInBounds_toArray, List.set_cons_zero, List.set_cons_succ, i64_w, i32_w]
      rfl
    refine pure_ (i := 9) (N := some 51) (v := ?_) (a' := ?_) #[true, true, true, true, true, true, true, true, false, true, false, false, false, false, false, false, false, false, false, false, false, false, false, false] rfl rfl (any_of HT_.out (by kernel_rfl)) (fun _ _ _ h => h) (Or.inl ⟨by rfl, ?_⟩) ?_ ?_
    rotate_left
    · intro w'
      go_simp
      with_reducible rfl
    rotate_left
    · simp only [Act.put, List.setIfInBounds_toArray, List.set_cons_zero, List.set_cons_succ, i64_w, i32_w]
      rfl
    refine take_ (i := 8) (N := some 50) (v := ?_) (a' := ?_) #[true, true, true, true, true, true, true, true, true, true, false, false, false, false, false, false, false, false, false, false, false, false, false, false] rfl rfl (take_ofW HT_.out HW_.out (by kernel_rfl)) (fun _ _ _ h => h) (Or.inl ⟨by rfl, ?_⟩) hHeld ?_ ?_
    rotate_left
    · rintro w' ⟨s0, s1, s2, s3, s4, s5, s6, s7, s8, s9, s10, s11, s12, s13, s14, s15, s16, s17, s18, s19, s20, s21, s22, s23, s24, s25, s26, s27, s28, s29, s30, s31, s32⟩
      go_simp
      with_reducible rfl
    rotate_left
    · simp only [Act.put, List.setIfInBounds_toArray, List.set_cons_zero, List.set_cons_succ, i64_w, i32_w]
      rfl
    refine take_ (i := 11) (N := some 53) (v := ?_) (a' := ?_) #[true, true, true, true, true, true, true, true, true, true, false, true, false, false, false, false, false, false, false, false, false, false, false, false] rfl rfl (take_ofW HT_.out HW_.out (by kernel_rfl)) (fun _ _ _ h => h) (Or.inl ⟨by rfl, ?_⟩) hHeld ?_ ?_
    rotate_left
    · rintro w' ⟨s0, s1, s2, s3, s4, s5, s6, s7, s8, s9, s10, s11, s12, s13, s14, s15, s16, s17, s18, s19, s20, s21, s22, s23, s24, s25, s26, s27, s28, s29, s30, s31, s32⟩
      go_simp
      with_reducible rfl
    rotate_left
    · simp only [Act.put, List.setIfInBounds_toArray, List.set_cons_zero, List.set_cons_succ, i64_w, i32_w]
      rfl
    refine take_ (i := 13) (N := some 55) (v := ?_) (a' := ?_) #[true, true, true, true, true, true, true, true, true, true, false, true, false, true, false, false, false, false, false, false, false, false, false, false] rfl rfl (take_ofW HT_.out HW_.out (by kernel_rfl)) (fun _ _ _ h => h) (Or.inl ⟨by rfl, ?_⟩) hHeld ?_ ?_
    rotate_left
    · rintro w' ⟨s0, s1, s2, s3, s4, s5, s6, s7, s8, s9, s10, s11, s12, s13, s14, s15, s16, s17, s18, s19, s20, s21, s22, s23, s24, s25, s26, s27, s28, s29, s30, s31, s32⟩
      go_simp
      with_reducible rfl
    rotate_left
    · simp only [Act.put, List.setIfInBounds_toArray, List.set_cons_zero, List.set_cons_succ, i64_w, i32_w]
      rfl
    refine take_ (i := 14) (N := some 56) (v := ?_) (a' := ?_) #[true, true, true, true, true, true, true, true, true, true, false, true, false, true, true, false, false, false, false, false, false, false, false, false] rfl rfl (take_ofW HT_.out HW_.out (by kernel_rfl)) (fun _ _ _ h => h) (Or.inl ⟨by rfl, ?_⟩) hHeld ?_ ?_
    rotate_left
    · rintro w' ⟨s0, s1, s2, s3, s4, s5, s6, s7, s8, s9, s10, s11, s12, s13, s14, s15, s16, s17, s18, s19, s20, s21, s22, s23, s24, s25, s26, s27, s28, s29, s30, s31, s32⟩
      go_simp
      with_reducible rfl
    rotate_left
    · simp only [Act.put, List.setIfInBounds_toArray, List.set_cons_zero, List.set_cons_succ, i64_w, i32_w]
      rfl
    refine one_ (i := 10) (N := some 52) #[true, true, true, true, true, true, true, true, true, true, true, true, false, true, true, false, false, false, false, false, false, false, false, false] rfl rfl (one_of HT_.out (by kernel_rfl)) (by decide) (fun K hK => ?_)
    refine goes_ Try.func59 (by kernel_rfl) rfl #[.agg #[.int .i64 q.a, .int .i64 q.b, .bool (q.G 0), .bool (q.G 1), .bool (q.G 2), .bool (q.G 3), .bool (q.H 0), .bool (q.H 1), .bool (q.H 2), .bool (q.H 3), .string (q.T 0), .string (q.T 1), .string (q.T 2), .string (q.T 3)], .int .i64 fr] (by rfl) rfl rfl (by (try simp only [List.map_toArray, List.map_cons, List.map_nil]); first | done | rfl) ?_
    refine (Cut.calls q fr _).mono ?_
    rintro e u1 ⟨rfl, hb⟩
    refine ⟨_, rfl, ?_⟩
    replace HQ := Aside0.mk (HQ.out.below hb)
    replace HK := Aside0.mk (HK.out.below hb)
    replace HP := Aside0.mk (HP.out.below hb)
    replace HC := Aside0.mk (Kd.C_below HC.out hb)
    replace HB := Aside0.mk (below_step HB.out hb)
    clear hb
    refine hK.out _ _ ⟨(blk_cell HP.out.blk 0), (blk_cell HP.out.blk 1), (blk_cell HP.out.blk 2), (blk_cell HP.out.blk 3), (blk_cell HP.out.blk 4), (blk_cell HP.out.blk 5), (blk_cell HP.out.blk 6), (blk_cell HP.out.blk 7), (blk_cell HP.out.blk 8), (blk_cell HP.out.blk 9), (blk_cell HP.out.blk 10), (blk_cell HP.out.blk 11), (blk_cell HP.out.blk 12), (blk_cell HP.out.blk 13), (blk_cell HQ.out.blk 0), (blk_cell HQ.out.blk 1), (blk_cell HQ.out.blk 2), (blk_cell HQ.out.blk 3), (blk_cell HQ.out.blk 4), (blk_cell HQ.out.blk 5), (blk_cell HQ.out.blk 6), (blk_cell HQ.out.blk 7), (blk_cell HQ.out.blk 8), (blk_cell HQ.out.blk 9), (blk_cell HQ.out.blk 10), (blk_cell HQ.out.blk 11), (blk_cell HQ.out.blk 12), (blk_cell HQ.out.blk 13), (blk_cell HK.out.blk 0), (blk_cell HK.out.blk 1), (blk_cell HK.out.blk 2), (blk_cell HK.out.blk 3), (blk_cell HK.out.blk 4)⟩ (fun hHeld => ?_)
    clear hK K
    refine norm_ (a' := ?_) ?_ ?_
    rotate_left
    · show Act.put _ (some 52) _ = _
      simp only [Act.put, List.setIfInBounds_toArray, List.set_cons_zero, List.set_cons_succ, i64_w, i32_w]
      rfl
    refine one_ (i := 12) (N := some 54) #[true, true, true, true, true, true, true, true, true, true, true, true, true, true, true, false, false, false, false, false, false, false, false, false] rfl rfl (one_of HT_.out (by kernel_rfl)) (by decide) (fun K hK => ?_)
    refine goes_ Try.func40 (by kernel_rfl) rfl #[.agg (cutV q fr).cells, .agg #[.int .i64 k.h, .string (k.D 0), .string (k.D 1), .string (k.D 2), .string (k.D 3)]] (by rfl) rfl rfl (by (try simp only [List.map_toArray, List.map_cons, List.map_nil]); first | done | rfl) ?_
    refine (Matches.calls (cutV q fr) k d _ HM.out.1).mono ?_
    rintro e u2 ⟨rfl, hb⟩
    refine ⟨_, rfl, ?_⟩
    replace HQ := Aside0.mk (HQ.out.below hb)
    replace HK := Aside0.mk (HK.out.below hb)
    replace HP := Aside0.mk (HP.out.below hb)
    replace HC := Aside0.mk (Kd.C_below HC.out hb)
    replace HB := Aside0.mk (below_step HB.out hb)
    clear hb
    refine hK.out _ _ ⟨(blk_cell HP.out.blk 0), (blk_cell HP.out.blk 1), (blk_cell HP.out.blk 2), (blk_cell HP.out.blk 3), (blk_cell HP.out.blk 4), (blk_cell HP.out.blk 5), (blk_cell HP.out.blk 6), (blk_cell HP.out.blk 7), (blk_cell HP.out.blk 8), (blk_cell HP.out.blk 9), (blk_cell HP.out.blk 10), (blk_cell HP.out.blk 11), (blk_cell HP.out.blk 12), (blk_cell HP.out.blk 13), (blk_cell HQ.out.blk 0), (blk_cell HQ.out.blk 1), (blk_cell HQ.out.blk 2), (blk_cell HQ.out.blk 3), (blk_cell HQ.out.blk 4), (blk_cell HQ.out.blk 5), (blk_cell HQ.out.blk 6), (blk_cell HQ.out.blk 7), (blk_cell HQ.out.blk 8), (blk_cell HQ.out.blk 9), (blk_cell HQ.out.blk 10), (blk_cell HQ.out.blk 11), (blk_cell HQ.out.blk 12), (blk_cell HQ.out.blk 13), (blk_cell HK.out.blk 0), (blk_cell HK.out.blk 1), (blk_cell HK.out.blk 2), (blk_cell HK.out.blk 3), (blk_cell HK.out.blk 4)⟩ (fun hHeld => ?_)
    clear hK K
    refine norm_ (a' := ?_) ?_ ?_
    rotate_left
    · show Act.put _ (some 54) _ = _
      simp only [Act.put, List.setIfInBounds_toArray, List.set_cons_zero, List.set_cons_succ, i64_w, i32_w]
      rfl
    refine one_ (i := 15) (N := some 57) #[true, true, true, true, true, true, true, true, true, true, true, true, true, true, true, true, false, false, false, false, false, false, false, false] rfl rfl (one_of HT_.out (by kernel_rfl)) (by decide) (fun K hK => ?_)
    refine goes_ Try.func40 (by kernel_rfl) rfl #[.agg #[.int .i64 q.a, .int .i64 q.b, .bool (q.G 0), .bool (q.G 1), .bool (q.G 2), .bool (q.G 3), .bool (q.H 0), .bool (q.H 1), .bool (q.H 2), .bool (q.H 3), .string (q.T 0), .string (q.T 1), .string (q.T 2), .string (q.T 3)], .agg #[.int .i64 k.h, .string (k.D 0), .string (k.D 1), .string (k.D 2), .string (k.D 3)]] (by rfl) rfl rfl (by (try simp only [List.map_toArray, List.map_cons, List.map_nil]); first | done | rfl) ?_
    refine (Matches.calls q k true _ HM.out.2).mono ?_
    rintro e u3 ⟨rfl, hb⟩
    refine ⟨_, rfl, ?_⟩
    replace HQ := Aside0.mk (HQ.out.below hb)
    replace HK := Aside0.mk (HK.out.below hb)
    replace HP := Aside0.mk (HP.out.below hb)
    replace HC := Aside0.mk (Kd.C_below HC.out hb)
    replace HB := Aside0.mk (below_step HB.out hb)
    clear hb
    refine hK.out _ _ ⟨(blk_cell HP.out.blk 0), (blk_cell HP.out.blk 1), (blk_cell HP.out.blk 2), (blk_cell HP.out.blk 3), (blk_cell HP.out.blk 4), (blk_cell HP.out.blk 5), (blk_cell HP.out.blk 6), (blk_cell HP.out.blk 7), (blk_cell HP.out.blk 8), (blk_cell HP.out.blk 9), (blk_cell HP.out.blk 10), (blk_cell HP.out.blk 11), (blk_cell HP.out.blk 12), (blk_cell HP.out.blk 13), (blk_cell HQ.out.blk 0), (blk_cell HQ.out.blk 1), (blk_cell HQ.out.blk 2), (blk_cell HQ.out.blk 3), (blk_cell HQ.out.blk 4), (blk_cell HQ.out.blk 5), (blk_cell HQ.out.blk 6), (blk_cell HQ.out.blk 7), (blk_cell HQ.out.blk 8), (blk_cell HQ.out.blk 9), (blk_cell HQ.out.blk 10), (blk_cell HQ.out.blk 11), (blk_cell HQ.out.blk 12), (blk_cell HQ.out.blk 13), (blk_cell HK.out.blk 0), (blk_cell HK.out.blk 1), (blk_cell HK.out.blk 2), (blk_cell HK.out.blk 3), (blk_cell HK.out.blk 4)⟩ (fun hHeld => ?_)
    clear hK K
    refine norm_ (a' := ?_) ?_ ?_
    rotate_left
    · show Act.put _ (some 57) _ = _
      simp only [Act.put, List.setIfInBounds_toArray, List.set_cons_zero, List.set_cons_succ, i64_w, i32_w]
      rfl
    refine pure_ (i := 16) (N := some 58) (v := ?_) (a' := ?_) #[true, true, true, true, true, true, true, true, true, true, true, true, true, true, true, true, true, false, false, false, false, false, false, false] rfl rfl (any_of HT_.out (by kernel_rfl)) (fun _ _ _ h => h) (Or.inl ⟨by rfl, ?_⟩) ?_ ?_
    rotate_left
    · intro w'
      go_simp
      with_reducible rfl
    rotate_left
    · simp only [Act.put, List.setIfInBounds_toArray, List.set_cons_zero, List.set_cons_succ, i64_w, i32_w]
      rfl
    refine pure_ (i := 17) (N := some 59) (v := ?_) (a' := ?_) #[true, true, true, true, true, true, true, true, true, true, true, true, true, true, true, true, true, true, false, false, false, false, false, false] rfl rfl (any_of HT_.out (by kernel_rfl)) (fun _ _ _ h => h) (Or.inl ⟨by rfl, ?_⟩) ?_ ?_
    rotate_left
    · intro w'
      go_simp
      with_reducible rfl
    rotate_left
    · simp only [Act.put, List.setIfInBounds_toArray, List.set_cons_zero, List.set_cons_succ, i64_w, i32_w]
      rfl
    refine pure_ (i := 19) (N := some 61) (v := ?_) (a' := ?_) #[true, true, true, true, true, true, true, true, true, true, true, true, true, true, true, true, true, true, false, true, false, false, false, false] rfl rfl (any_of HT_.out (by kernel_rfl)) (fun _ _ _ h => h) (Or.inl ⟨by rfl, ?_⟩) ?_ ?_
    rotate_left
    · intro w'
      go_simp
      with_reducible rfl
    rotate_left
    · simp only [Act.put, List.setIfInBounds_toArray, List.set_cons_zero, List.set_cons_succ, i64_w, i32_w]
      rfl
    refine take_ (i := 18) (N := some 60) (v := ?_) (a' := ?_) #[true, true, true, true, true, true, true, true, true, true, true, true, true, true, true, true, true, true, true, true, false, false, false, false] rfl rfl (take_ofW HT_.out HW_.out (by kernel_rfl)) (fun _ _ _ h => h) (Or.inl ⟨by rfl, ?_⟩) hHeld ?_ ?_
    rotate_left
    · rintro w' ⟨s0, s1, s2, s3, s4, s5, s6, s7, s8, s9, s10, s11, s12, s13, s14, s15, s16, s17, s18, s19, s20, s21, s22, s23, s24, s25, s26, s27, s28, s29, s30, s31, s32⟩
      go_simp
      with_reducible rfl
    rotate_left
    · simp only [Act.put, List.setIfInBounds_toArray, List.set_cons_zero, List.set_cons_succ, i64_w, i32_w]
      rfl
    refine pure_ (i := 20) (N := some 62) (v := ?_) (a' := ?_) #[true, true, true, true, true, true, true, true, true, true, true, true, true, true, true, true, true, true, true, true, true, false, false, false] rfl rfl (any_of HT_.out (by kernel_rfl)) (fun _ _ _ h => h) (Or.inl ⟨by rfl, ?_⟩) ?_ ?_
    rotate_left
    · intro w'
      go_simp
      with_reducible rfl
    rotate_left
    · simp only [Act.put, List.setIfInBounds_toArray, List.set_cons_zero, List.set_cons_succ, i64_w, i32_w]
      rfl
    refine pure_ (i := 21) (N := some 63) (v := ?_) (a' := ?_) #[true, true, true, true, true, true, true, true, true, true, true, true, true, true, true, true, true, true, true, true, true, true, false, false] rfl rfl (any_of HT_.out (by kernel_rfl)) (fun _ _ _ h => h) (Or.inl ⟨by rfl, ?_⟩) ?_ ?_
    rotate_left
    · intro w'
      go_simp
      with_reducible rfl
    rotate_left
    · simp only [Act.put, List.setIfInBounds_toArray, List.set_cons_zero, List.set_cons_succ, i64_w, i32_w]
      rfl
    refine pure_ (i := 22) (N := some 64) (v := ?_) (a' := ?_) #[true, true, true, true, true, true, true, true, true, true, true, true, true, true, true, true, true, true, true, true, true, true, true, false] rfl rfl (any_of HT_.out (by kernel_rfl)) (fun _ _ _ h => h) (Or.inl ⟨by rfl, ?_⟩) ?_ ?_
    rotate_left
    · intro w'
      go_simp
      with_reducible rfl
    rotate_left
    · simp only [Act.put, List.setIfInBounds_toArray, List.set_cons_zero, List.set_cons_succ, i64_w, i32_w]
      rfl
    refine pure_ (i := 23) (N := some 65) (v := ?_) (a' := ?_) #[true, true, true, true, true, true, true, true, true, true, true, true, true, true, true, true, true, true, true, true, true, true, true, true] rfl rfl (any_of HT_.out (by kernel_rfl)) (fun _ _ _ h => h) (Or.inl ⟨by rfl, ?_⟩) ?_ ?_
    rotate_left
    · intro w'
      go_simp
      with_reducible rfl
    rotate_left
    · simp only [Act.put, List.setIfInBounds_toArray, List.set_cons_zero, List.set_cons_succ, i64_w, i32_w]
      rfl
    refine done_ (done_of HT_.out (by kernel_rfl)) ?_

    clear hHeld hek HM HP
    clear HQ HK
    have hset := fun (W : World) => run_storeCells_new (P := Try.prog) W 58 #[.int .i64 0, .int .i64 0, .bool false, .bool false, .bool false, .bool false, .bool false, .bool false, .bool false, .bool false, .string { data := #[] }, .string { data := #[] }, .string { data := #[] }, .string { data := #[] }] rq.cells (by kernel_rfl) rfl (by simp [Qy.cells, Value.oneCell'])
    go_wp2_with fail
    refine (ReadV.calls A0 c0 l dims rq rf _ HC.out hc (by omega) HY.out HR.out).mono ?_
    rintro e v1 ⟨rfl, hb⟩
    replace HC := Aside0.mk (Kd.C_below (Kd.C_below HC.out hb) ((Below.refl _ _).alloc (Nat.le_refl _) (.cells rq.cells 58 (0, 0))))
    replace HB := Aside0.mk ((below_step HB.out hb).alloc (by have := HB.out.size; have := hb.size; omega) (.cells rq.cells 58 (0, 0)))
    have HP := Aside0.mk (QB.new rq v1)
    clear hb
    by_cases cf : rf = 0
    · subst cf
      have HI := Aside0.mk (read_inv HY.out HR.out)
      clear HR HY
      obtain ⟨x0, x1, x2, x3, x4, x5, x6, x7, x8, x9, x10, x11, x12, x13⟩ := HP.out.all
      go_wp2_with fail
      clear x0 x1 x2 x3 x4 x5 x6 x7 x8 x9 x10 x11 x12 x13 hset
      generalize v1.alloc _ = v2 at HC HB HP ⊢
      refine (EncodeV.calls rq dims 0 l _ HI.out.1 HI.out.2).mono ?_
      rintro e v3 ⟨y, rfl, hr, hb⟩
      obtain ⟨A7, c7, rfl, hc7, hC7⟩ := Kd.R_reads hr
      have HC7 := Aside0.mk (⟨hC7, hc7⟩ : _ ∧ _)
      replace HC := Aside0.mk (Kd.C_below HC.out hb)
      replace HB := Aside0.mk (below_step HB.out hb)
      clear hr hb hC7 hc7 HP HI
      go_wp2_with fail
      refine (ossuaryref01_Same.calls A7 c7 l A0 c0 l true _ HC7.out.1 HC7.out.2 HC.out hc (same_refl _)).mono ?_
      rintro e v4 ⟨rfl, hd⟩
      replace HB := Aside0.mk (below_step HB.out hd.below)
      clear hd HC HC7
      go_wp2_with fail
      refine (alive13.calls _).mono ?_
      rintro e wa ⟨rfl, hb⟩
      have HBa := Aside0.mk (below_step HB.out hb)
      clear hb HB
      go_wp2
      go_ret
      exact ⟨rfl, HBa.out⟩
    · have cfb : (rf != 0) = true := bne_iff_ne.mpr cf
      obtain rfl := read_bad HR.out cf
      clear HR HY HC
      have hek : ∀ W : World, (Op.equalIn 10000 58 (.agg #[.int .i64 0, .int .i64 0, .bool false, .bool false, .bool false, .bool false, .bool false, .bool false, .bool false, .bool false, .string { data := #[] }, .string { data := #[] }, .string { data := #[] }, .string { data := #[] }]) (.agg #[.int .i64 0, .int .i64 0, .bool false, .bool false, .bool false, .bool false, .bool false, .bool false, .bool false, .bool false, .string { data := #[] }, .string { data := #[] }, .string { data := #[] }, .string { data := #[] }])).run Try.prog W = .ok true W := fun W => eqQ 9997 W zQ
      have x0 : (v1.alloc (.cells zQ.cells 58 (0, 0))).cell? ⟨v1.heap.size, 0, none⟩ = some (.int .i64 0) := blk_cell HP.out.blk 0
      have x1 : (v1.alloc (.cells zQ.cells 58 (0, 0))).cell? ⟨v1.heap.size, 1, none⟩ = some (.int .i64 0) := blk_cell HP.out.blk 1
      have x2 : (v1.alloc (.cells zQ.cells 58 (0, 0))).cell? ⟨v1.heap.size, 2, none⟩ = some (.bool false) := blk_cell HP.out.blk 2
      have x3 : (v1.alloc (.cells zQ.cells 58 (0, 0))).cell? ⟨v1.heap.size, 3, none⟩ = some (.bool false) := blk_cell HP.out.blk 3
      have x4 : (v1.alloc (.cells zQ.cells 58 (0, 0))).cell? ⟨v1.heap.size, 4, none⟩ = some (.bool false) := blk_cell HP.out.blk 4
      have x5 : (v1.alloc (.cells zQ.cells 58 (0, 0))).cell? ⟨v1.heap.size, 5, none⟩ = some (.bool false) := blk_cell HP.out.blk 5
      have x6 : (v1.alloc (.cells zQ.cells 58 (0, 0))).cell? ⟨v1.heap.size, 6, none⟩ = some (.bool false) := blk_cell HP.out.blk 6
      have x7 : (v1.alloc (.cells zQ.cells 58 (0, 0))).cell? ⟨v1.heap.size, 7, none⟩ = some (.bool false) := blk_cell HP.out.blk 7
      have x8 : (v1.alloc (.cells zQ.cells 58 (0, 0))).cell? ⟨v1.heap.size, 8, none⟩ = some (.bool false) := blk_cell HP.out.blk 8
      have x9 : (v1.alloc (.cells zQ.cells 58 (0, 0))).cell? ⟨v1.heap.size, 9, none⟩ = some (.bool false) := blk_cell HP.out.blk 9
      have x10 : (v1.alloc (.cells zQ.cells 58 (0, 0))).cell? ⟨v1.heap.size, 10, none⟩ = some (.string { data := #[] }) := blk_cell HP.out.blk 10
      have x11 : (v1.alloc (.cells zQ.cells 58 (0, 0))).cell? ⟨v1.heap.size, 11, none⟩ = some (.string { data := #[] }) := blk_cell HP.out.blk 11
      have x12 : (v1.alloc (.cells zQ.cells 58 (0, 0))).cell? ⟨v1.heap.size, 12, none⟩ = some (.string { data := #[] }) := blk_cell HP.out.blk 12
      have x13 : (v1.alloc (.cells zQ.cells 58 (0, 0))).cell? ⟨v1.heap.size, 13, none⟩ = some (.string { data := #[] }) := blk_cell HP.out.blk 13
      go_wp2_with fail
      clear x0 x1 x2 x3 x4 x5 x6 x7 x8 x9 x10 x11 x12 x13 hset hek
      generalize v1.alloc _ = v2 at HB ⊢
      go_wp2_with fail
      refine (alive13.calls _).mono ?_
      rintro e wa ⟨rfl, hb⟩
      have HBa := Aside0.mk (below_step HB.out hb)
      clear hb HB
      go_wp2
      go_ret
      exact ⟨rfl, HBa.out⟩
end As
def ossuarylaw13_AskBack.f (q : Qy) (l : List Int) (dims fr : Int) (k : Ky) : Option Bool := if ∀ x ∈ l, 0 ≤ x ∧ x < 256 then some true else none
open As in
theorem ossuarylaw13_AskBack.calls (q : Qy) (A0 : Option Addr) (c0 : Nat) (l : List Int) (dims fr : Int) (k : Ky) (r : Bool) (w : World) (hC : Kd.C (Kd.int .u8) w A0 l.length l) (hc : l.length ≤ c0) (h : ossuarylaw13_AskBack.f q l dims fr k = some r) :
    Calls Try.prog 14 #[.agg q.cells, .slice A0 l.length c0, .int .i64 dims, .int .i64 fr, .agg k.cells] w fun e w' => e = .returned (.bool r) ∧ Below w.heap.size w w' := by
  unfold ossuarylaw13_AskBack.f at h
  split at h
  · rename_i hb
    obtain rfl := Option.some.inj h
    cases hl : light q with
    | false => exact AskBack_heavy.calls q A0 c0 l dims fr k w hC hc hl
    | true =>
      by_cases hn : 200 < l.length
      · exact AskBack_long.calls q A0 c0 l dims fr k w hC hc hl hn
      · by_cases hk : chkQ q dims = 0
        · exact AskBack_ok.calls q A0 c0 l dims fr k w hC hc hl (by omega) hb hk _ rfl
        · exact AskBack_wrong.calls q A0 c0 l dims fr k w hC hc hl (by omega) hb hk
  · cases h
end Go.Proofs.Ytjegkfdcelodeaa.P
