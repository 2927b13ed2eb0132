import Derived.Test.YtiokjjadpobciaaLn0
namespace Go.Proofs.Ytiokjjadpobciaa.P
open Go.RowKit Go.Conc Go.Proofs.YtiokjjadpobciaaW.PrintWords Go.Proofs.YtiokjjadpobciaaW.PrintLast Go.Proofs.YtiokjjadpobciaaW.PrintMore
attribute [local go_sem] max2_int min2_int max_two min_two max_three min_three max_four min_four
set_option linter.unusedVariables false
set_option linter.unusedSimpArgs false
namespace Dd
/-- The cells of a step that has a kind and a number alone. -/
def stepL (x : Int × Int) : List Value := [.int .i64 x.1, .int .i64 x.2, .slice none 0 0, .int .i64 0, .int .i64 0, .bool false, .bool false, .bool false, .bool false, .bool false, .bool false, .bool false, .bool false, .string { data := #[] }, .string { data := #[] }, .string { data := #[] }, .string { data := #[] }, .int .i64 0, .int .i64 0, .int .i64 0, .int .i64 0, .int .i64 0, .int .i64 0, .int .i64 0, .int .i64 0, .int .i64 0, .slice none 0 0]
theorem stepL_one (x : Int × Int) : ∀ u ∈ stepL x, u.oneCell' = true := by
  intro u hu
  simp [stepL] at hu
  rcases hu with rfl | rfl | rfl | rfl | rfl | rfl | rfl | rfl <;> rfl
def stepK : Kd (Int × Int) where
  sz := 27
  E := []
  K := fun _ x cs => cs = stepL x
  M := fun _ _ _ x cs => cs = stepL x
  K_len := fun h => by rw [h]; rfl
  K_one := fun h u hu => by rw [h] at hu; exact stepL_one _ u hu
  K_below := fun _ h => h
  K_of_M := fun h => h
  M_mono := fun _ h => h
  M_bound := fun h => h
  M_move := fun _ h => h
  M_lower := fun _ h => h
theorem info66 : (Try.prog.info? 66).map (fun i => (i.zero, i.size, i.bytes)) = some (some (.agg #[.int .i64 0, .int .i64 0, .slice none 0 0, .int .i64 0, .int .i64 0, .bool false, .bool false, .bool false, .bool false, .bool false, .bool false, .bool false, .bool false, .string { data := #[] }, .string { data := #[] }, .string { data := #[] }, .string { data := #[] }, .int .i64 0, .int .i64 0, .int .i64 0, .int .i64 0, .int .i64 0, .int .i64 0, .int .i64 0, .int .i64 0, .int .i64 0, .slice none 0 0]), 27, 224) := by kernel_rfl
/-- The script. -/
def hoursV (h : Int) : Int := if h < 0 then 0 else if 16777216 < h then 0 else h
def jobsV (j : Int) : Nat := if 900 < j then 0 else j.toNat
def driveV (h j : Int) : List (Int × Int) := (4, hoursV h * 60) :: List.replicate (jobsV j) (5, 0)
theorem R_first (W : World) (x : Int × Int) : Kd.R stepK 66 (W.alloc (.cells (stepL x).toArray 66 (0, 0))) W.heap.size (fun _ => True) (.slice (some ⟨W.heap.size, 0, none⟩) 1 1) [x] := by
  refine ⟨fun _ _ => trivial, stepL x, ?_, ?_⟩
  · have h2 := World.ownsRow_lit (base := W.heap.size) (e := 66) (size := 27) W (stepL x).toArray 1 (Nat.le_refl _) (by simp [maxLen]) rfl
    simpa [show stepK.sz = 27 from rfl] using h2
  · exact Reps.front (c := stepL x) (cs := []) rfl rfl (Reps.none _ _) (by simp)
def lenS : Value → Nat
  | .slice _ n _ => n
  | _ => 0
set_option maxHeartbeats 8000000 in
set_option maxRecDepth 100000 in
theorem Drive.nn (h j : Int) (w : World) (h1 : h < 0) (hj : j < 0) :
    Calls Try.prog 9 #[.int .i64 h, .int .i64 j] w fun e w' => ∃ v, e = .returned v ∧ Kd.R stepK 66 w' w.heap.size (fun _ => True) v ((4, 0) :: List.replicate 0 (5, 0)) ∧ Below w.heap.size w w' := by
  have e3 : decide (j < 0) = true := decide_eq_true hj
  clear hj
  have e1 : decide (h < 0) = true := decide_eq_true h1
  clear h1
  have HR := Aside0.mk (R_first w (4, 0))
  have HB := Aside0.mk (show Below w.heap.size w (w.alloc (.cells (stepL (4, 0)).toArray 66 (0, 0))) from (Below.refl _ w).alloc (Nat.le_refl _) _)
  go_enter Try.func9, Try.ntmps9
  go_wp2
  go_loopw [5, 23] (fun x5 x23 wr => ∃ i : Nat, x23 = .int .i64 i ∧ i ≤ 0 ∧ lenS x5 = i + 1 ∧ Aside0 (Kd.R stepK 66 wr w.heap.size (fun _ => True) x5 ((4, 0) :: List.replicate i (5, 0))) ∧ Aside0 (Below w.heap.size w wr)) (fun x5 x23 _ => 0 + 1 - lenS x5)
  case atStart => exact ⟨0, rfl, by omega, rfl, HR, HB⟩
  case round =>
    clear HR HB
    obtain ⟨i, rfl, hi, hlen, HR, HB⟩ := hrel
    obtain ⟨A, cp, hv⟩ := Kd.R_slice HR.out
    simp only [List.length_cons, List.length_replicate] at hv
    subst hv
    by_cases d : i < 0
    · exact absurd d (by omega)
    · have d1 : decide ((i : Int) < (0 : Int)) = false := decide_eq_false (by omega)
      have hij : i = 0 := by omega
      go_wp2
      go_ret
      refine ⟨_, rfl, ?_, HB.out⟩
      have := HR.out
      rw [hij] at this
      subst hij
      exact this
set_option maxHeartbeats 8000000 in
set_option maxRecDepth 100000 in
theorem Drive.nm (h j : Int) (w : World) (h1 : h < 0) (hj : ¬ j < 0) (hj2 : 900 < j) :
    Calls Try.prog 9 #[.int .i64 h, .int .i64 j] w fun e w' => ∃ v, e = .returned v ∧ Kd.R stepK 66 w' w.heap.size (fun _ => True) v ((4, 0) :: List.replicate 0 (5, 0)) ∧ Below w.heap.size w w' := by
  have e3 : decide (j < 0) = false := decide_eq_false hj
  have e4 : decide (900 < j) = true := decide_eq_true hj2
  clear hj hj2
  have e1 : decide (h < 0) = true := decide_eq_true h1
  clear h1
  have HR := Aside0.mk (R_first w (4, 0))
  have HB := Aside0.mk (show Below w.heap.size w (w.alloc (.cells (stepL (4, 0)).toArray 66 (0, 0))) from (Below.refl _ w).alloc (Nat.le_refl _) _)
  go_enter Try.func9, Try.ntmps9
  go_wp2
  go_loopw [5, 23] (fun x5 x23 wr => ∃ i : Nat, x23 = .int .i64 i ∧ i ≤ 0 ∧ lenS x5 = i + 1 ∧ Aside0 (Kd.R stepK 66 wr w.heap.size (fun _ => True) x5 ((4, 0) :: List.replicate i (5, 0))) ∧ Aside0 (Below w.heap.size w wr)) (fun x5 x23 _ => 0 + 1 - lenS x5)
  case atStart => exact ⟨0, rfl, by omega, rfl, HR, HB⟩
  case round =>
    clear HR HB
    obtain ⟨i, rfl, hi, hlen, HR, HB⟩ := hrel
    obtain ⟨A, cp, hv⟩ := Kd.R_slice HR.out
    simp only [List.length_cons, List.length_replicate] at hv
    subst hv
    by_cases d : i < 0
    · exact absurd d (by omega)
    · have d1 : decide ((i : Int) < (0 : Int)) = false := decide_eq_false (by omega)
      have hij : i = 0 := by omega
      go_wp2
      go_ret
      refine ⟨_, rfl, ?_, HB.out⟩
      have := HR.out
      rw [hij] at this
      subst hij
      exact this
set_option maxHeartbeats 8000000 in
set_option maxRecDepth 100000 in
theorem Drive.ng (h j : Int) (n : Nat) (w : World) (h1 : h < 0) (hj : j = n) (hn : n ≤ 900) :
    Calls Try.prog 9 #[.int .i64 h, .int .i64 j] w fun e w' => ∃ v, e = .returned v ∧ Kd.R stepK 66 w' w.heap.size (fun _ => True) v ((4, 0) :: List.replicate n (5, 0)) ∧ Below w.heap.size w w' := by
  subst hj
  have e3 : decide ((n : Int) < 0) = false := decide_eq_false (by omega)
  have e4 : decide (900 < (n : Int)) = false := decide_eq_false (by omega)
  have e4' : ¬ 900 < n := by omega
  have e1 : decide (h < 0) = true := decide_eq_true h1
  clear h1
  have HR := Aside0.mk (R_first w (4, 0))
  have HB := Aside0.mk (show Below w.heap.size w (w.alloc (.cells (stepL (4, 0)).toArray 66 (0, 0))) from (Below.refl _ w).alloc (Nat.le_refl _) _)
  go_enter Try.func9, Try.ntmps9
  go_wp2
  go_loopw [5, 23] (fun x5 x23 wr => ∃ i : Nat, x23 = .int .i64 i ∧ i ≤ n ∧ lenS x5 = i + 1 ∧ Aside0 (Kd.R stepK 66 wr w.heap.size (fun _ => True) x5 ((4, 0) :: List.replicate i (5, 0))) ∧ Aside0 (Below w.heap.size w wr)) (fun x5 x23 _ => n + 1 - lenS x5)
  case atStart => exact ⟨0, rfl, by omega, rfl, HR, HB⟩
  case round =>
    clear HR HB
    obtain ⟨i, rfl, hi, hlen, HR, HB⟩ := hrel
    obtain ⟨A, cp, hv⟩ := Kd.R_slice HR.out
    simp only [List.length_cons, List.length_replicate] at hv
    subst hv
    by_cases d : i < n
    · have d1 : decide ((i : Int) < (n : Int)) = true := decide_eq_true (by omega)
      have hw : wrap64 ((i : Int) + 1) = ((i + 1 : Nat) : Int) := by unfold wrap64; omega
      have hs : w.heap.size ≤ wr.heap.size := HB.out.size
      go_wp2_with ((with_reducible refine gate_builtin (b := .append) (xs := #[.tmp 25, .tmp 27]) rfl ?_); at_builtin; refine Kd.R_append stepK (w0 := w) w.heap.size rfl (.tmp 25) (.tmp 27) 23 66 _ 224 rfl Try.underlying23 info66 rfl (by decide) (by omega) (.slice A (i + 1) cp) ((4, 0) :: List.replicate i (5, 0)) (5, 0) (stepL (5, 0)) (fun _ => True) (fun _ => False) rfl rfl ?aP (fun _ hk => hk.elim) ?aF ?aO ?aB ?aS ?aL ?_; (case aP => exact rfl); (case aB => exact HB.out); (case aF => intro k hk; trivial); (case aO => exact HR.out); (case aS => exact hs); (case aL => simp; omega); intro v2 w2 ho hb hgr hat; have HO := Aside0.mk ho; have HB2 := Aside0.mk hb; clear ho hb hgr hat)
      have HO2 := HO.out
      rw [List.cons_append, ← List.replicate_succ'] at HO2
      obtain ⟨A2, c2, hv2⟩ := Kd.R_slice HO2
      simp only [List.length_cons, List.length_replicate] at hv2
      subst hv2
      go_roundw
      case rel => exact ⟨i + 1, by first | rfl | (rw [hw]), by omega, rfl, ⟨HO2⟩, HB2⟩
      case measure => simp only [lenS]; omega
    · have d1 : decide ((i : Int) < (n : Int)) = false := decide_eq_false (by omega)
      have hij : i = n := by omega
      go_wp2
      go_ret
      refine ⟨_, rfl, ?_, HB.out⟩
      have := HR.out
      rw [hij] at this
      subst hij
      exact this
set_option maxHeartbeats 8000000 in
set_option maxRecDepth 100000 in
theorem Drive.mn (h j : Int) (w : World) (h1 : ¬ h < 0) (h2 : 16777216 < h) (hj : j < 0) :
    Calls Try.prog 9 #[.int .i64 h, .int .i64 j] w fun e w' => ∃ v, e = .returned v ∧ Kd.R stepK 66 w' w.heap.size (fun _ => True) v ((4, 0) :: List.replicate 0 (5, 0)) ∧ Below w.heap.size w w' := by
  have e3 : decide (j < 0) = true := decide_eq_true hj
  clear hj
  have e1 : decide (h < 0) = false := decide_eq_false h1
  have e2 : decide (16777216 < h) = true := decide_eq_true h2
  clear h1 h2
  have HR := Aside0.mk (R_first w (4, 0))
  have HB := Aside0.mk (show Below w.heap.size w (w.alloc (.cells (stepL (4, 0)).toArray 66 (0, 0))) from (Below.refl _ w).alloc (Nat.le_refl _) _)
  go_enter Try.func9, Try.ntmps9
  go_wp2
  go_loopw [5, 23] (fun x5 x23 wr => ∃ i : Nat, x23 = .int .i64 i ∧ i ≤ 0 ∧ lenS x5 = i + 1 ∧ Aside0 (Kd.R stepK 66 wr w.heap.size (fun _ => True) x5 ((4, 0) :: List.replicate i (5, 0))) ∧ Aside0 (Below w.heap.size w wr)) (fun x5 x23 _ => 0 + 1 - lenS x5)
  case atStart => exact ⟨0, rfl, by omega, rfl, HR, HB⟩
  case round =>
    clear HR HB
    obtain ⟨i, rfl, hi, hlen, HR, HB⟩ := hrel
    obtain ⟨A, cp, hv⟩ := Kd.R_slice HR.out
    simp only [List.length_cons, List.length_replicate] at hv
    subst hv
    by_cases d : i < 0
    · exact absurd d (by omega)
    · have d1 : decide ((i : Int) < (0 : Int)) = false := decide_eq_false (by omega)
      have hij : i = 0 := by omega
      go_wp2
      go_ret
      refine ⟨_, rfl, ?_, HB.out⟩
      have := HR.out
      rw [hij] at this
      subst hij
      exact this
set_option maxHeartbeats 8000000 in
set_option maxRecDepth 100000 in
theorem Drive.mm (h j : Int) (w : World) (h1 : ¬ h < 0) (h2 : 16777216 < h) (hj : ¬ j < 0) (hj2 : 900 < j) :
    Calls Try.prog 9 #[.int .i64 h, .int .i64 j] w fun e w' => ∃ v, e = .returned v ∧ Kd.R stepK 66 w' w.heap.size (fun _ => True) v ((4, 0) :: List.replicate 0 (5, 0)) ∧ Below w.heap.size w w' := by
  have e3 : decide (j < 0) = false := decide_eq_false hj
  have e4 : decide (900 < j) = true := decide_eq_true hj2
  clear hj hj2
  have e1 : decide (h < 0) = false := decide_eq_false h1
  have e2 : decide (16777216 < h) = true := decide_eq_true h2
  clear h1 h2
  have HR := Aside0.mk (R_first w (4, 0))
  have HB := Aside0.mk (show Below w.heap.size w (w.alloc (.cells (stepL (4, 0)).toArray 66 (0, 0))) from (Below.refl _ w).alloc (Nat.le_refl _) _)
  go_enter Try.func9, Try.ntmps9
  go_wp2
  go_loopw [5, 23] (fun x5 x23 wr => ∃ i : Nat, x23 = .int .i64 i ∧ i ≤ 0 ∧ lenS x5 = i + 1 ∧ Aside0 (Kd.R stepK 66 wr w.heap.size (fun _ => True) x5 ((4, 0) :: List.replicate i (5, 0))) ∧ Aside0 (Below w.heap.size w wr)) (fun x5 x23 _ => 0 + 1 - lenS x5)
  case atStart => exact ⟨0, rfl, by omega, rfl, HR, HB⟩
  case round =>
    clear HR HB
    obtain ⟨i, rfl, hi, hlen, HR, HB⟩ := hrel
    obtain ⟨A, cp, hv⟩ := Kd.R_slice HR.out
    simp only [List.length_cons, List.length_replicate] at hv
    subst hv
    by_cases d : i < 0
    · exact absurd d (by omega)
    · have d1 : decide ((i : Int) < (0 : Int)) = false := decide_eq_false (by omega)
      have hij : i = 0 := by omega
      go_wp2
      go_ret
      refine ⟨_, rfl, ?_, HB.out⟩
      have := HR.out
      rw [hij] at this
      subst hij
      exact this
set_option maxHeartbeats 8000000 in
set_option maxRecDepth 100000 in
theorem Drive.mg (h j : Int) (n : Nat) (w : World) (h1 : ¬ h < 0) (h2 : 16777216 < h) (hj : j = n) (hn : n ≤ 900) :
    Calls Try.prog 9 #[.int .i64 h, .int .i64 j] w fun e w' => ∃ v, e = .returned v ∧ Kd.R stepK 66 w' w.heap.size (fun _ => True) v ((4, 0) :: List.replicate n (5, 0)) ∧ Below w.heap.size w w' := by
  subst hj
  have e3 : decide ((n : Int) < 0) = false := decide_eq_false (by omega)
  have e4 : decide (900 < (n : Int)) = false := decide_eq_false (by omega)
  have e4' : ¬ 900 < n := by omega
  have e1 : decide (h < 0) = false := decide_eq_false h1
  have e2 : decide (16777216 < h) = true := decide_eq_true h2
  clear h1 h2
  have HR := Aside0.mk (R_first w (4, 0))
  have HB := Aside0.mk (show Below w.heap.size w (w.alloc (.cells (stepL (4, 0)).toArray 66 (0, 0))) from (Below.refl _ w).alloc (Nat.le_refl _) _)
  go_enter Try.func9, Try.ntmps9
  go_wp2
  go_loopw [5, 23] (fun x5 x23 wr => ∃ i : Nat, x23 = .int .i64 i ∧ i ≤ n ∧ lenS x5 = i + 1 ∧ Aside0 (Kd.R stepK 66 wr w.heap.size (fun _ => True) x5 ((4, 0) :: List.replicate i (5, 0))) ∧ Aside0 (Below w.heap.size w wr)) (fun x5 x23 _ => n + 1 - lenS x5)
  case atStart => exact ⟨0, rfl, by omega, rfl, HR, HB⟩
  case round =>
    clear HR HB
    obtain ⟨i, rfl, hi, hlen, HR, HB⟩ := hrel
    obtain ⟨A, cp, hv⟩ := Kd.R_slice HR.out
    simp only [List.length_cons, List.length_replicate] at hv
    subst hv
    by_cases d : i < n
    · have d1 : decide ((i : Int) < (n : Int)) = true := decide_eq_true (by omega)
      have hw : wrap64 ((i : Int) + 1) = ((i + 1 : Nat) : Int) := by unfold wrap64; omega
      have hs : w.heap.size ≤ wr.heap.size := HB.out.size
      go_wp2_with ((with_reducible refine gate_builtin (b := .append) (xs := #[.tmp 25, .tmp 27]) rfl ?_); at_builtin; refine Kd.R_append stepK (w0 := w) w.heap.size rfl (.tmp 25) (.tmp 27) 23 66 _ 224 rfl Try.underlying23 info66 rfl (by decide) (by omega) (.slice A (i + 1) cp) ((4, 0) :: List.replicate i (5, 0)) (5, 0) (stepL (5, 0)) (fun _ => True) (fun _ => False) rfl rfl ?aP (fun _ hk => hk.elim) ?aF ?aO ?aB ?aS ?aL ?_; (case aP => exact rfl); (case aB => exact HB.out); (case aF => intro k hk; trivial); (case aO => exact HR.out); (case aS => exact hs); (case aL => simp; omega); intro v2 w2 ho hb hgr hat; have HO := Aside0.mk ho; have HB2 := Aside0.mk hb; clear ho hb hgr hat)
      have HO2 := HO.out
      rw [List.cons_append, ← List.replicate_succ'] at HO2
      obtain ⟨A2, c2, hv2⟩ := Kd.R_slice HO2
      simp only [List.length_cons, List.length_replicate] at hv2
      subst hv2
      go_roundw
      case rel => exact ⟨i + 1, by first | rfl | (rw [hw]), by omega, rfl, ⟨HO2⟩, HB2⟩
      case measure => simp only [lenS]; omega
    · have d1 : decide ((i : Int) < (n : Int)) = false := decide_eq_false (by omega)
      have hij : i = n := by omega
      go_wp2
      go_ret
      refine ⟨_, rfl, ?_, HB.out⟩
      have := HR.out
      rw [hij] at this
      subst hij
      exact this
set_option maxHeartbeats 8000000 in
set_option maxRecDepth 100000 in
theorem Drive.gn (h j : Int) (w : World) (h1 : ¬ h < 0) (h2 : ¬ 16777216 < h) (hj : j < 0) :
    Calls Try.prog 9 #[.int .i64 h, .int .i64 j] w fun e w' => ∃ v, e = .returned v ∧ Kd.R stepK 66 w' w.heap.size (fun _ => True) v ((4, (h * 60)) :: List.replicate 0 (5, 0)) ∧ Below w.heap.size w w' := by
  have e3 : decide (j < 0) = true := decide_eq_true hj
  clear hj
  have e1 : decide (h < 0) = false := decide_eq_false h1
  have e2 : decide (16777216 < h) = false := decide_eq_false h2
  have e5 : wrap64 (h * 60) = h * 60 := by unfold wrap64; omega
  clear h1 h2
  have HR := Aside0.mk (R_first w (4, (h * 60)))
  have HB := Aside0.mk (show Below w.heap.size w (w.alloc (.cells (stepL (4, (h * 60))).toArray 66 (0, 0))) from (Below.refl _ w).alloc (Nat.le_refl _) _)
  go_enter Try.func9, Try.ntmps9
  go_wp2
  go_loopw [5, 23] (fun x5 x23 wr => ∃ i : Nat, x23 = .int .i64 i ∧ i ≤ 0 ∧ lenS x5 = i + 1 ∧ Aside0 (Kd.R stepK 66 wr w.heap.size (fun _ => True) x5 ((4, (h * 60)) :: List.replicate i (5, 0))) ∧ Aside0 (Below w.heap.size w wr)) (fun x5 x23 _ => 0 + 1 - lenS x5)
  case atStart => exact ⟨0, rfl, by omega, rfl, HR, HB⟩
  case round =>
    clear HR HB e5
    obtain ⟨i, rfl, hi, hlen, HR, HB⟩ := hrel
    obtain ⟨A, cp, hv⟩ := Kd.R_slice HR.out
    simp only [List.length_cons, List.length_replicate] at hv
    subst hv
    by_cases d : i < 0
    · exact absurd d (by omega)
    · have d1 : decide ((i : Int) < (0 : Int)) = false := decide_eq_false (by omega)
      have hij : i = 0 := by omega
      go_wp2
      go_ret
      refine ⟨_, rfl, ?_, HB.out⟩
      have := HR.out
      rw [hij] at this
      subst hij
      exact this
set_option maxHeartbeats 8000000 in
set_option maxRecDepth 100000 in
theorem Drive.gm (h j : Int) (w : World) (h1 : ¬ h < 0) (h2 : ¬ 16777216 < h) (hj : ¬ j < 0) (hj2 : 900 < j) :
    Calls Try.prog 9 #[.int .i64 h, .int .i64 j] w fun e w' => ∃ v, e = .returned v ∧ Kd.R stepK 66 w' w.heap.size (fun _ => True) v ((4, (h * 60)) :: List.replicate 0 (5, 0)) ∧ Below w.heap.size w w' := by
  have e3 : decide (j < 0) = false := decide_eq_false hj
  have e4 : decide (900 < j) = true := decide_eq_true hj2
  clear hj hj2
  have e1 : decide (h < 0) = false := decide_eq_false h1
  have e2 : decide (16777216 < h) = false := decide_eq_false h2
  have e5 : wrap64 (h * 60) = h * 60 := by unfold wrap64; omega
  clear h1 h2
  have HR := Aside0.mk (R_first w (4, (h * 60)))
  have HB := Aside0.mk (show Below w.heap.size w (w.alloc (.cells (stepL (4, (h * 60))).toArray 66 (0, 0))) from (Below.refl _ w).alloc (Nat.le_refl _) _)
  go_enter Try.func9, Try.ntmps9
  go_wp2
  go_loopw [5, 23] (fun x5 x23 wr => ∃ i : Nat, x23 = .int .i64 i ∧ i ≤ 0 ∧ lenS x5 = i + 1 ∧ Aside0 (Kd.R stepK 66 wr w.heap.size (fun _ => True) x5 ((4, (h * 60)) :: List.replicate i (5, 0))) ∧ Aside0 (Below w.heap.size w wr)) (fun x5 x23 _ => 0 + 1 - lenS x5)
  case atStart => exact ⟨0, rfl, by omega, rfl, HR, HB⟩
  case round =>
    clear HR HB e5
    obtain ⟨i, rfl, hi, hlen, HR, HB⟩ := hrel
    obtain ⟨A, cp, hv⟩ := Kd.R_slice HR.out
    simp only [List.length_cons, List.length_replicate] at hv
    subst hv
    by_cases d : i < 0
    · exact absurd d (by omega)
    · have d1 : decide ((i : Int) < (0 : Int)) = false := decide_eq_false (by omega)
      have hij : i = 0 := by omega
      go_wp2
      go_ret
      refine ⟨_, rfl, ?_, HB.out⟩
      have := HR.out
      rw [hij] at this
      subst hij
      exact this
set_option maxHeartbeats 8000000 in
set_option maxRecDepth 100000 in
theorem Drive.gg (h j : Int) (n : Nat) (w : World) (h1 : ¬ h < 0) (h2 : ¬ 16777216 < h) (hj : j = n) (hn : n ≤ 900) :
    Calls Try.prog 9 #[.int .i64 h, .int .i64 j] w fun e w' => ∃ v, e = .returned v ∧ Kd.R stepK 66 w' w.heap.size (fun _ => True) v ((4, (h * 60)) :: List.replicate n (5, 0)) ∧ Below w.heap.size w w' := by
  subst hj
  have e3 : decide ((n : Int) < 0) = false := decide_eq_false (by omega)
  have e4 : decide (900 < (n : Int)) = false := decide_eq_false (by omega)
  have e4' : ¬ 900 < n := by omega
  have e1 : decide (h < 0) = false := decide_eq_false h1
  have e2 : decide (16777216 < h) = false := decide_eq_false h2
  have e5 : wrap64 (h * 60) = h * 60 := by unfold wrap64; omega
  clear h1 h2
  have HR := Aside0.mk (R_first w (4, (h * 60)))
  have HB := Aside0.mk (show Below w.heap.size w (w.alloc (.cells (stepL (4, (h * 60))).toArray 66 (0, 0))) from (Below.refl _ w).alloc (Nat.le_refl _) _)
  go_enter Try.func9, Try.ntmps9
  go_wp2
  go_loopw [5, 23] (fun x5 x23 wr => ∃ i : Nat, x23 = .int .i64 i ∧ i ≤ n ∧ lenS x5 = i + 1 ∧ Aside0 (Kd.R stepK 66 wr w.heap.size (fun _ => True) x5 ((4, (h * 60)) :: List.replicate i (5, 0))) ∧ Aside0 (Below w.heap.size w wr)) (fun x5 x23 _ => n + 1 - lenS x5)
  case atStart => exact ⟨0, rfl, by omega, rfl, HR, HB⟩
  case round =>
    clear HR HB e5
    obtain ⟨i, rfl, hi, hlen, HR, HB⟩ := hrel
    obtain ⟨A, cp, hv⟩ := Kd.R_slice HR.out
    simp only [List.length_cons, List.length_replicate] at hv
    subst hv
    by_cases d : i < n
    · have d1 : decide ((i : Int) < (n : Int)) = true := decide_eq_true (by omega)
      have hw : wrap64 ((i : Int) + 1) = ((i + 1 : Nat) : Int) := by unfold wrap64; omega
      have hs : w.heap.size ≤ wr.heap.size := HB.out.size
      go_wp2_with ((with_reducible refine gate_builtin (b := .append) (xs := #[.tmp 25, .tmp 27]) rfl ?_); at_builtin; refine Kd.R_append stepK (w0 := w) w.heap.size rfl (.tmp 25) (.tmp 27) 23 66 _ 224 rfl Try.underlying23 info66 rfl (by decide) (by omega) (.slice A (i + 1) cp) ((4, (h * 60)) :: List.replicate i (5, 0)) (5, 0) (stepL (5, 0)) (fun _ => True) (fun _ => False) rfl rfl ?aP (fun _ hk => hk.elim) ?aF ?aO ?aB ?aS ?aL ?_; (case aP => exact rfl); (case aB => exact HB.out); (case aF => intro k hk; trivial); (case aO => exact HR.out); (case aS => exact hs); (case aL => simp; omega); intro v2 w2 ho hb hgr hat; have HO := Aside0.mk ho; have HB2 := Aside0.mk hb; clear ho hb hgr hat)
      have HO2 := HO.out
      rw [List.cons_append, ← List.replicate_succ'] at HO2
      obtain ⟨A2, c2, hv2⟩ := Kd.R_slice HO2
      simp only [List.length_cons, List.length_replicate] at hv2
      subst hv2
      go_roundw
      case rel => exact ⟨i + 1, by first | rfl | (rw [hw]), by omega, rfl, ⟨HO2⟩, HB2⟩
      case measure => simp only [lenS]; omega
    · have d1 : decide ((i : Int) < (n : Int)) = false := decide_eq_false (by omega)
      have hij : i = n := by omega
      go_wp2
      go_ret
      refine ⟨_, rfl, ?_, HB.out⟩
      have := HR.out
      rw [hij] at this
      subst hij
      exact this
theorem Drive.calls (h j : Int) (w : World) :
    Calls Try.prog 9 #[.int .i64 h, .int .i64 j] w fun e w' => ∃ v, e = .returned v ∧ Kd.R stepK 66 w' w.heap.size (fun _ => True) v (driveV h j) ∧ Below w.heap.size w w' := by
  by_cases h1 : h < 0
  · have eh : hoursV h * 60 = 0 := by unfold hoursV; rw [if_pos h1]; rfl
    unfold driveV
    rw [eh]
    by_cases j1 : j < 0
    · rw [show jobsV j = 0 from by unfold jobsV; split <;> omega]; exact Drive.nn h j w h1 j1
    by_cases j2 : 900 < j
    · rw [show jobsV j = 0 from by unfold jobsV; split <;> omega]; exact Drive.nm h j w h1 (by omega) j2
    · rw [show jobsV j = j.toNat from by unfold jobsV; rw [if_neg j2]]; exact Drive.ng h j j.toNat w h1 (by omega) (by omega)
  by_cases h2 : 16777216 < h
  · have eh : hoursV h * 60 = 0 := by unfold hoursV; rw [if_neg h1, if_pos h2]; rfl
    unfold driveV
    rw [eh]
    by_cases j1 : j < 0
    · rw [show jobsV j = 0 from by unfold jobsV; split <;> omega]; exact Drive.mn h j w h1 h2 j1
    by_cases j2 : 900 < j
    · rw [show jobsV j = 0 from by unfold jobsV; split <;> omega]; exact Drive.mm h j w h1 h2 (by omega) j2
    · rw [show jobsV j = j.toNat from by unfold jobsV; rw [if_neg j2]]; exact Drive.mg h j j.toNat w h1 h2 (by omega) (by omega)
  · have eh : hoursV h * 60 = h * 60 := by unfold hoursV; rw [if_neg h1, if_neg h2]
    unfold driveV
    rw [eh]
    by_cases j1 : j < 0
    · rw [show jobsV j = 0 from by unfold jobsV; split <;> omega]; exact Drive.gn h j w h1 h2 j1
    by_cases j2 : 900 < j
    · rw [show jobsV j = 0 from by unfold jobsV; split <;> omega]; exact Drive.gm h j w h1 h2 (by omega) j2
    · rw [show jobsV j = j.toNat from by unfold jobsV; rw [if_neg j2]]; exact Drive.gg h j j.toNat w h1 h2 (by omega) (by omega)
set_option maxHeartbeats 8000000 in
set_option maxRecDepth 100000 in
theorem RDrive.nn (h j : Int) (w : World) (h1 : h < 0) (hj : j < 0) :
    Calls Try.prog 10 #[.int .i64 h, .int .i64 j] w fun e w' => ∃ v, e = .returned v ∧ Kd.R stepK 66 w' w.heap.size (fun _ => True) v ((4, 0) :: List.replicate 0 (5, 0)) ∧ Below w.heap.size w w' := by
  have e3 : decide (900 < j) = false := decide_eq_false (by omega)
  have e1 : decide (h < 0) = true := decide_eq_true h1
  clear h1
  have HR := Aside0.mk (R_first w (4, 0))
  have HB := Aside0.mk (show Below w.heap.size w (w.alloc (.cells (stepL (4, 0)).toArray 66 (0, 0))) from (Below.refl _ w).alloc (Nat.le_refl _) _)
  go_enter Try.func10, Try.ntmps10
  go_wp2
  go_loopw [5, 6] (fun x5 x6 wr => ∃ i : Nat, x6 = .int .i64 i ∧ i ≤ 0 ∧ lenS x5 = i + 1 ∧ Aside0 (Kd.R stepK 66 wr w.heap.size (fun _ => True) x5 ((4, 0) :: List.replicate i (5, 0))) ∧ Aside0 (Below w.heap.size w wr)) (fun x5 x6 _ => 0 + 1 - lenS x5)
  case atStart => exact ⟨0, rfl, by omega, rfl, HR, HB⟩
  case round =>
    clear HR HB
    obtain ⟨i, rfl, hi, hlen, HR, HB⟩ := hrel
    obtain ⟨A, cp, hv⟩ := Kd.R_slice HR.out
    simp only [List.length_cons, List.length_replicate] at hv
    subst hv
    by_cases d : i < 0
    · exact absurd d (by omega)
    · have d1 : decide ((i : Int) < j) = false := decide_eq_false (by omega)
      have hij : i = 0 := by omega
      go_wp2
      go_ret
      refine ⟨_, rfl, ?_, HB.out⟩
      have := HR.out
      rw [hij] at this
      subst hij
      exact this
set_option maxHeartbeats 8000000 in
set_option maxRecDepth 100000 in
theorem RDrive.nm (h j : Int) (w : World) (h1 : h < 0) (hj2 : 900 < j) :
    Calls Try.prog 10 #[.int .i64 h, .int .i64 j] w fun e w' => ∃ v, e = .returned v ∧ Kd.R stepK 66 w' w.heap.size (fun _ => True) v ((4, 0) :: List.replicate 0 (5, 0)) ∧ Below w.heap.size w w' := by
  have e4 : decide (900 < j) = true := decide_eq_true hj2
  clear hj2
  have e1 : decide (h < 0) = true := decide_eq_true h1
  clear h1
  have HR := Aside0.mk (R_first w (4, 0))
  have HB := Aside0.mk (show Below w.heap.size w (w.alloc (.cells (stepL (4, 0)).toArray 66 (0, 0))) from (Below.refl _ w).alloc (Nat.le_refl _) _)
  go_enter Try.func10, Try.ntmps10
  go_wp2
  go_loopw [5, 6] (fun x5 x6 wr => ∃ i : Nat, x6 = .int .i64 i ∧ i ≤ 0 ∧ lenS x5 = i + 1 ∧ Aside0 (Kd.R stepK 66 wr w.heap.size (fun _ => True) x5 ((4, 0) :: List.replicate i (5, 0))) ∧ Aside0 (Below w.heap.size w wr)) (fun x5 x6 _ => 0 + 1 - lenS x5)
  case atStart => exact ⟨0, rfl, by omega, rfl, HR, HB⟩
  case round =>
    clear HR HB
    obtain ⟨i, rfl, hi, hlen, HR, HB⟩ := hrel
    obtain ⟨A, cp, hv⟩ := Kd.R_slice HR.out
    simp only [List.length_cons, List.length_replicate] at hv
    subst hv
    by_cases d : i < 0
    · exact absurd d (by omega)
    · have d1 : decide ((i : Int) < (0 : Int)) = false := decide_eq_false (by omega)
      have hij : i = 0 := by omega
      go_wp2
      go_ret
      refine ⟨_, rfl, ?_, HB.out⟩
      have := HR.out
      rw [hij] at this
      subst hij
      exact this
set_option maxHeartbeats 8000000 in
set_option maxRecDepth 100000 in
theorem RDrive.ng (h j : Int) (n : Nat) (w : World) (h1 : h < 0) (hj : j = n) (hn : n ≤ 900) :
    Calls Try.prog 10 #[.int .i64 h, .int .i64 j] w fun e w' => ∃ v, e = .returned v ∧ Kd.R stepK 66 w' w.heap.size (fun _ => True) v ((4, 0) :: List.replicate n (5, 0)) ∧ Below w.heap.size w w' := by
  subst hj
  have e4 : decide (900 < (n : Int)) = false := decide_eq_false (by omega)
  have e4' : ¬ 900 < n := by omega
  have e1 : decide (h < 0) = true := decide_eq_true h1
  clear h1
  have HR := Aside0.mk (R_first w (4, 0))
  have HB := Aside0.mk (show Below w.heap.size w (w.alloc (.cells (stepL (4, 0)).toArray 66 (0, 0))) from (Below.refl _ w).alloc (Nat.le_refl _) _)
  go_enter Try.func10, Try.ntmps10
  go_wp2
  go_loopw [5, 6] (fun x5 x6 wr => ∃ i : Nat, x6 = .int .i64 i ∧ i ≤ n ∧ lenS x5 = i + 1 ∧ Aside0 (Kd.R stepK 66 wr w.heap.size (fun _ => True) x5 ((4, 0) :: List.replicate i (5, 0))) ∧ Aside0 (Below w.heap.size w wr)) (fun x5 x6 _ => n + 1 - lenS x5)
  case atStart => exact ⟨0, rfl, by omega, rfl, HR, HB⟩
  case round =>
    clear HR HB
    obtain ⟨i, rfl, hi, hlen, HR, HB⟩ := hrel
    obtain ⟨A, cp, hv⟩ := Kd.R_slice HR.out
    simp only [List.length_cons, List.length_replicate] at hv
    subst hv
    by_cases d : i < n
    · have d1 : decide ((i : Int) < (n : Int)) = true := decide_eq_true (by omega)
      have hw : wrap64 ((i : Int) + 1) = ((i + 1 : Nat) : Int) := by unfold wrap64; omega
      have hs : w.heap.size ≤ wr.heap.size := HB.out.size
      go_wp2_with ((with_reducible refine gate_builtin (b := .append) (xs := #[.tmp 24, .tmp 26]) rfl ?_); at_builtin; refine Kd.R_append stepK (w0 := w) w.heap.size rfl (.tmp 24) (.tmp 26) 23 66 _ 224 rfl Try.underlying23 info66 rfl (by decide) (by omega) (.slice A (i + 1) cp) ((4, 0) :: List.replicate i (5, 0)) (5, 0) (stepL (5, 0)) (fun _ => True) (fun _ => False) rfl rfl ?aP (fun _ hk => hk.elim) ?aF ?aO ?aB ?aS ?aL ?_; (case aP => exact rfl); (case aB => exact HB.out); (case aF => intro k hk; trivial); (case aO => exact HR.out); (case aS => exact hs); (case aL => simp; omega); intro v2 w2 ho hb hgr hat; have HO := Aside0.mk ho; have HB2 := Aside0.mk hb; clear ho hb hgr hat)
      have HO2 := HO.out
      rw [List.cons_append, ← List.replicate_succ'] at HO2
      obtain ⟨A2, c2, hv2⟩ := Kd.R_slice HO2
      simp only [List.length_cons, List.length_replicate] at hv2
      subst hv2
      go_roundw
      case rel => exact ⟨i + 1, by first | rfl | (rw [hw]), by omega, rfl, ⟨HO2⟩, HB2⟩
      case measure => simp only [lenS]; omega
    · have d1 : decide ((i : Int) < (n : Int)) = false := decide_eq_false (by omega)
      have hij : i = n := by omega
      go_wp2
      go_ret
      refine ⟨_, rfl, ?_, HB.out⟩
      have := HR.out
      rw [hij] at this
      subst hij
      exact this
set_option maxHeartbeats 8000000 in
set_option maxRecDepth 100000 in
theorem RDrive.mn (h j : Int) (w : World) (h1 : ¬ h < 0) (h2 : 16777216 < h) (hj : j < 0) :
    Calls Try.prog 10 #[.int .i64 h, .int .i64 j] w fun e w' => ∃ v, e = .returned v ∧ Kd.R stepK 66 w' w.heap.size (fun _ => True) v ((4, 0) :: List.replicate 0 (5, 0)) ∧ Below w.heap.size w w' := by
  have e3 : decide (900 < j) = false := decide_eq_false (by omega)
  have e1 : decide (h < 0) = false := decide_eq_false h1
  have e2 : decide (16777216 < h) = true := decide_eq_true h2
  clear h1 h2
  have HR := Aside0.mk (R_first w (4, 0))
  have HB := Aside0.mk (show Below w.heap.size w (w.alloc (.cells (stepL (4, 0)).toArray 66 (0, 0))) from (Below.refl _ w).alloc (Nat.le_refl _) _)
  go_enter Try.func10, Try.ntmps10
  go_wp2
  go_loopw [5, 6] (fun x5 x6 wr => ∃ i : Nat, x6 = .int .i64 i ∧ i ≤ 0 ∧ lenS x5 = i + 1 ∧ Aside0 (Kd.R stepK 66 wr w.heap.size (fun _ => True) x5 ((4, 0) :: List.replicate i (5, 0))) ∧ Aside0 (Below w.heap.size w wr)) (fun x5 x6 _ => 0 + 1 - lenS x5)
  case atStart => exact ⟨0, rfl, by omega, rfl, HR, HB⟩
  case round =>
    clear HR HB
    obtain ⟨i, rfl, hi, hlen, HR, HB⟩ := hrel
    obtain ⟨A, cp, hv⟩ := Kd.R_slice HR.out
    simp only [List.length_cons, List.length_replicate] at hv
    subst hv
    by_cases d : i < 0
    · exact absurd d (by omega)
    · have d1 : decide ((i : Int) < j) = false := decide_eq_false (by omega)
      have hij : i = 0 := by omega
      go_wp2
      go_ret
      refine ⟨_, rfl, ?_, HB.out⟩
      have := HR.out
      rw [hij] at this
      subst hij
      exact this
set_option maxHeartbeats 8000000 in
set_option maxRecDepth 100000 in
theorem RDrive.mm (h j : Int) (w : World) (h1 : ¬ h < 0) (h2 : 16777216 < h) (hj2 : 900 < j) :
    Calls Try.prog 10 #[.int .i64 h, .int .i64 j] w fun e w' => ∃ v, e = .returned v ∧ Kd.R stepK 66 w' w.heap.size (fun _ => True) v ((4, 0) :: List.replicate 0 (5, 0)) ∧ Below w.heap.size w w' := by
  have e4 : decide (900 < j) = true := decide_eq_true hj2
  clear hj2
  have e1 : decide (h < 0) = false := decide_eq_false h1
  have e2 : decide (16777216 < h) = true := decide_eq_true h2
  clear h1 h2
  have HR := Aside0.mk (R_first w (4, 0))
  have HB := Aside0.mk (show Below w.heap.size w (w.alloc (.cells (stepL (4, 0)).toArray 66 (0, 0))) from (Below.refl _ w).alloc (Nat.le_refl _) _)
  go_enter Try.func10, Try.ntmps10
  go_wp2
  go_loopw [5, 6] (fun x5 x6 wr => ∃ i : Nat, x6 = .int .i64 i ∧ i ≤ 0 ∧ lenS x5 = i + 1 ∧ Aside0 (Kd.R stepK 66 wr w.heap.size (fun _ => True) x5 ((4, 0) :: List.replicate i (5, 0))) ∧ Aside0 (Below w.heap.size w wr)) (fun x5 x6 _ => 0 + 1 - lenS x5)
  case atStart => exact ⟨0, rfl, by omega, rfl, HR, HB⟩
  case round =>
    clear HR HB
    obtain ⟨i, rfl, hi, hlen, HR, HB⟩ := hrel
    obtain ⟨A, cp, hv⟩ := Kd.R_slice HR.out
    simp only [List.length_cons, List.length_replicate] at hv
    subst hv
    by_cases d : i < 0
    · exact absurd d (by omega)
    · have d1 : decide ((i : Int) < (0 : Int)) = false := decide_eq_false (by omega)
      have hij : i = 0 := by omega
      go_wp2
      go_ret
      refine ⟨_, rfl, ?_, HB.out⟩
      have := HR.out
      rw [hij] at this
      subst hij
      exact this
set_option maxHeartbeats 8000000 in
set_option maxRecDepth 100000 in
theorem RDrive.mg (h j : Int) (n : Nat) (w : World) (h1 : ¬ h < 0) (h2 : 16777216 < h) (hj : j = n) (hn : n ≤ 900) :
    Calls Try.prog 10 #[.int .i64 h, .int .i64 j] w fun e w' => ∃ v, e = .returned v ∧ Kd.R stepK 66 w' w.heap.size (fun _ => True) v ((4, 0) :: List.replicate n (5, 0)) ∧ Below w.heap.size w w' := by
  subst hj
  have e4 : decide (900 < (n : Int)) = false := decide_eq_false (by omega)
  have e4' : ¬ 900 < n := by omega
  have e1 : decide (h < 0) = false := decide_eq_false h1
  have e2 : decide (16777216 < h) = true := decide_eq_true h2
  clear h1 h2
  have HR := Aside0.mk (R_first w (4, 0))
  have HB := Aside0.mk (show Below w.heap.size w (w.alloc (.cells (stepL (4, 0)).toArray 66 (0, 0))) from (Below.refl _ w).alloc (Nat.le_refl _) _)
  go_enter Try.func10, Try.ntmps10
  go_wp2
  go_loopw [5, 6] (fun x5 x6 wr => ∃ i : Nat, x6 = .int .i64 i ∧ i ≤ n ∧ lenS x5 = i + 1 ∧ Aside0 (Kd.R stepK 66 wr w.heap.size (fun _ => True) x5 ((4, 0) :: List.replicate i (5, 0))) ∧ Aside0 (Below w.heap.size w wr)) (fun x5 x6 _ => n + 1 - lenS x5)
  case atStart => exact ⟨0, rfl, by omega, rfl, HR, HB⟩
  case round =>
    clear HR HB
    obtain ⟨i, rfl, hi, hlen, HR, HB⟩ := hrel
    obtain ⟨A, cp, hv⟩ := Kd.R_slice HR.out
    simp only [List.length_cons, List.length_replicate] at hv
    subst hv
    by_cases d : i < n
    · have d1 : decide ((i : Int) < (n : Int)) = true := decide_eq_true (by omega)
      have hw : wrap64 ((i : Int) + 1) = ((i + 1 : Nat) : Int) := by unfold wrap64; omega
      have hs : w.heap.size ≤ wr.heap.size := HB.out.size
      go_wp2_with ((with_reducible refine gate_builtin (b := .append) (xs := #[.tmp 24, .tmp 26]) rfl ?_); at_builtin; refine Kd.R_append stepK (w0 := w) w.heap.size rfl (.tmp 24) (.tmp 26) 23 66 _ 224 rfl Try.underlying23 info66 rfl (by decide) (by omega) (.slice A (i + 1) cp) ((4, 0) :: List.replicate i (5, 0)) (5, 0) (stepL (5, 0)) (fun _ => True) (fun _ => False) rfl rfl ?aP (fun _ hk => hk.elim) ?aF ?aO ?aB ?aS ?aL ?_; (case aP => exact rfl); (case aB => exact HB.out); (case aF => intro k hk; trivial); (case aO => exact HR.out); (case aS => exact hs); (case aL => simp; omega); intro v2 w2 ho hb hgr hat; have HO := Aside0.mk ho; have HB2 := Aside0.mk hb; clear ho hb hgr hat)
      have HO2 := HO.out
      rw [List.cons_append, ← List.replicate_succ'] at HO2
      obtain ⟨A2, c2, hv2⟩ := Kd.R_slice HO2
      simp only [List.length_cons, List.length_replicate] at hv2
      subst hv2
      go_roundw
      case rel => exact ⟨i + 1, by first | rfl | (rw [hw]), by omega, rfl, ⟨HO2⟩, HB2⟩
      case measure => simp only [lenS]; omega
    · have d1 : decide ((i : Int) < (n : Int)) = false := decide_eq_false (by omega)
      have hij : i = n := by omega
      go_wp2
      go_ret
      refine ⟨_, rfl, ?_, HB.out⟩
      have := HR.out
      rw [hij] at this
      subst hij
      exact this
set_option maxHeartbeats 8000000 in
set_option maxRecDepth 100000 in
theorem RDrive.gn (h j : Int) (w : World) (h1 : ¬ h < 0) (h2 : ¬ 16777216 < h) (hj : j < 0) :
    Calls Try.prog 10 #[.int .i64 h, .int .i64 j] w fun e w' => ∃ v, e = .returned v ∧ Kd.R stepK 66 w' w.heap.size (fun _ => True) v ((4, (h * 60)) :: List.replicate 0 (5, 0)) ∧ Below w.heap.size w w' := by
  have e3 : decide (900 < j) = false := decide_eq_false (by omega)
  have e1 : decide (h < 0) = false := decide_eq_false h1
  have e2 : decide (16777216 < h) = false := decide_eq_false h2
  have e5 : wrap64 (60 * h) = h * 60 := by unfold wrap64; omega
  clear h1 h2
  have HR := Aside0.mk (R_first w (4, (h * 60)))
  have HB := Aside0.mk (show Below w.heap.size w (w.alloc (.cells (stepL (4, (h * 60))).toArray 66 (0, 0))) from (Below.refl _ w).alloc (Nat.le_refl _) _)
  go_enter Try.func10, Try.ntmps10
  go_wp2
  go_loopw [5, 6] (fun x5 x6 wr => ∃ i : Nat, x6 = .int .i64 i ∧ i ≤ 0 ∧ lenS x5 = i + 1 ∧ Aside0 (Kd.R stepK 66 wr w.heap.size (fun _ => True) x5 ((4, (h * 60)) :: List.replicate i (5, 0))) ∧ Aside0 (Below w.heap.size w wr)) (fun x5 x6 _ => 0 + 1 - lenS x5)
  case atStart => exact ⟨0, rfl, by omega, rfl, HR, HB⟩
  case round =>
    clear HR HB e5
    obtain ⟨i, rfl, hi, hlen, HR, HB⟩ := hrel
    obtain ⟨A, cp, hv⟩ := Kd.R_slice HR.out
    simp only [List.length_cons, List.length_replicate] at hv
    subst hv
    by_cases d : i < 0
    · exact absurd d (by omega)
    · have d1 : decide ((i : Int) < j) = false := decide_eq_false (by omega)
      have hij : i = 0 := by omega
      go_wp2
      go_ret
      refine ⟨_, rfl, ?_, HB.out⟩
      have := HR.out
      rw [hij] at this
      subst hij
      exact this
set_option maxHeartbeats 8000000 in
set_option maxRecDepth 100000 in
theorem RDrive.gm (h j : Int) (w : World) (h1 : ¬ h < 0) (h2 : ¬ 16777216 < h) (hj2 : 900 < j) :
    Calls Try.prog 10 #[.int .i64 h, .int .i64 j] w fun e w' => ∃ v, e = .returned v ∧ Kd.R stepK 66 w' w.heap.size (fun _ => True) v ((4, (h * 60)) :: List.replicate 0 (5, 0)) ∧ Below w.heap.size w w' := by
  have e4 : decide (900 < j) = true := decide_eq_true hj2
  clear hj2
  have e1 : decide (h < 0) = false := decide_eq_false h1
  have e2 : decide (16777216 < h) = false := decide_eq_false h2
  have e5 : wrap64 (60 * h) = h * 60 := by unfold wrap64; omega
  clear h1 h2
  have HR := Aside0.mk (R_first w (4, (h * 60)))
  have HB := Aside0.mk (show Below w.heap.size w (w.alloc (.cells (stepL (4, (h * 60))).toArray 66 (0, 0))) from (Below.refl _ w).alloc (Nat.le_refl _) _)
  go_enter Try.func10, Try.ntmps10
  go_wp2
  go_loopw [5, 6] (fun x5 x6 wr => ∃ i : Nat, x6 = .int .i64 i ∧ i ≤ 0 ∧ lenS x5 = i + 1 ∧ Aside0 (Kd.R stepK 66 wr w.heap.size (fun _ => True) x5 ((4, (h * 60)) :: List.replicate i (5, 0))) ∧ Aside0 (Below w.heap.size w wr)) (fun x5 x6 _ => 0 + 1 - lenS x5)
  case atStart => exact ⟨0, rfl, by omega, rfl, HR, HB⟩
  case round =>
    clear HR HB e5
    obtain ⟨i, rfl, hi, hlen, HR, HB⟩ := hrel
    obtain ⟨A, cp, hv⟩ := Kd.R_slice HR.out
    simp only [List.length_cons, List.length_replicate] at hv
    subst hv
    by_cases d : i < 0
    · exact absurd d (by omega)
    · have d1 : decide ((i : Int) < (0 : Int)) = false := decide_eq_false (by omega)
      have hij : i = 0 := by omega
      go_wp2
      go_ret
      refine ⟨_, rfl, ?_, HB.out⟩
      have := HR.out
      rw [hij] at this
      subst hij
      exact this
set_option maxHeartbeats 8000000 in
set_option maxRecDepth 100000 in
theorem RDrive.gg (h j : Int) (n : Nat) (w : World) (h1 : ¬ h < 0) (h2 : ¬ 16777216 < h) (hj : j = n) (hn : n ≤ 900) :
    Calls Try.prog 10 #[.int .i64 h, .int .i64 j] w fun e w' => ∃ v, e = .returned v ∧ Kd.R stepK 66 w' w.heap.size (fun _ => True) v ((4, (h * 60)) :: List.replicate n (5, 0)) ∧ Below w.heap.size w w' := by
  subst hj
  have e4 : decide (900 < (n : Int)) = false := decide_eq_false (by omega)
  have e4' : ¬ 900 < n := by omega
  have e1 : decide (h < 0) = false := decide_eq_false h1
  have e2 : decide (16777216 < h) = false := decide_eq_false h2
  have e5 : wrap64 (60 * h) = h * 60 := by unfold wrap64; omega
  clear h1 h2
  have HR := Aside0.mk (R_first w (4, (h * 60)))
  have HB := Aside0.mk (show Below w.heap.size w (w.alloc (.cells (stepL (4, (h * 60))).toArray 66 (0, 0))) from (Below.refl _ w).alloc (Nat.le_refl _) _)
  go_enter Try.func10, Try.ntmps10
  go_wp2
  go_loopw [5, 6] (fun x5 x6 wr => ∃ i : Nat, x6 = .int .i64 i ∧ i ≤ n ∧ lenS x5 = i + 1 ∧ Aside0 (Kd.R stepK 66 wr w.heap.size (fun _ => True) x5 ((4, (h * 60)) :: List.replicate i (5, 0))) ∧ Aside0 (Below w.heap.size w wr)) (fun x5 x6 _ => n + 1 - lenS x5)
  case atStart => exact ⟨0, rfl, by omega, rfl, HR, HB⟩
  case round =>
    clear HR HB e5
    obtain ⟨i, rfl, hi, hlen, HR, HB⟩ := hrel
    obtain ⟨A, cp, hv⟩ := Kd.R_slice HR.out
    simp only [List.length_cons, List.length_replicate] at hv
    subst hv
    by_cases d : i < n
    · have d1 : decide ((i : Int) < (n : Int)) = true := decide_eq_true (by omega)
      have hw : wrap64 ((i : Int) + 1) = ((i + 1 : Nat) : Int) := by unfold wrap64; omega
      have hs : w.heap.size ≤ wr.heap.size := HB.out.size
      go_wp2_with ((with_reducible refine gate_builtin (b := .append) (xs := #[.tmp 24, .tmp 26]) rfl ?_); at_builtin; refine Kd.R_append stepK (w0 := w) w.heap.size rfl (.tmp 24) (.tmp 26) 23 66 _ 224 rfl Try.underlying23 info66 rfl (by decide) (by omega) (.slice A (i + 1) cp) ((4, (h * 60)) :: List.replicate i (5, 0)) (5, 0) (stepL (5, 0)) (fun _ => True) (fun _ => False) rfl rfl ?aP (fun _ hk => hk.elim) ?aF ?aO ?aB ?aS ?aL ?_; (case aP => exact rfl); (case aB => exact HB.out); (case aF => intro k hk; trivial); (case aO => exact HR.out); (case aS => exact hs); (case aL => simp; omega); intro v2 w2 ho hb hgr hat; have HO := Aside0.mk ho; have HB2 := Aside0.mk hb; clear ho hb hgr hat)
      have HO2 := HO.out
      rw [List.cons_append, ← List.replicate_succ'] at HO2
      obtain ⟨A2, c2, hv2⟩ := Kd.R_slice HO2
      simp only [List.length_cons, List.length_replicate] at hv2
      subst hv2
      go_roundw
      case rel => exact ⟨i + 1, by first | rfl | (rw [hw]), by omega, rfl, ⟨HO2⟩, HB2⟩
      case measure => simp only [lenS]; omega
    · have d1 : decide ((i : Int) < (n : Int)) = false := decide_eq_false (by omega)
      have hij : i = n := by omega
      go_wp2
      go_ret
      refine ⟨_, rfl, ?_, HB.out⟩
      have := HR.out
      rw [hij] at this
      subst hij
      exact this
theorem RDrive.calls (h j : Int) (w : World) :
    Calls Try.prog 10 #[.int .i64 h, .int .i64 j] w fun e w' => ∃ v, e = .returned v ∧ Kd.R stepK 66 w' w.heap.size (fun _ => True) v (driveV h j) ∧ Below w.heap.size w w' := by
  by_cases h1 : h < 0
  · have eh : hoursV h * 60 = 0 := by unfold hoursV; rw [if_pos h1]; rfl
    unfold driveV
    rw [eh]
    by_cases j1 : j < 0
    · rw [show jobsV j = 0 from by unfold jobsV; split <;> omega]; exact RDrive.nn h j w h1 j1
    by_cases j2 : 900 < j
    · rw [show jobsV j = 0 from by unfold jobsV; split <;> omega]; exact RDrive.nm h j w h1 j2
    · rw [show jobsV j = j.toNat from by unfold jobsV; rw [if_neg j2]]; exact RDrive.ng h j j.toNat w h1 (by omega) (by omega)
  by_cases h2 : 16777216 < h
  · have eh : hoursV h * 60 = 0 := by unfold hoursV; rw [if_neg h1, if_pos h2]; rfl
    unfold driveV
    rw [eh]
    by_cases j1 : j < 0
    · rw [show jobsV j = 0 from by unfold jobsV; split <;> omega]; exact RDrive.mn h j w h1 h2 j1
    by_cases j2 : 900 < j
    · rw [show jobsV j = 0 from by unfold jobsV; split <;> omega]; exact RDrive.mm h j w h1 h2 j2
    · rw [show jobsV j = j.toNat from by unfold jobsV; rw [if_neg j2]]; exact RDrive.mg h j j.toNat w h1 h2 (by omega) (by omega)
  · have eh : hoursV h * 60 = h * 60 := by unfold hoursV; rw [if_neg h1, if_neg h2]
    unfold driveV
    rw [eh]
    by_cases j1 : j < 0
    · rw [show jobsV j = 0 from by unfold jobsV; split <;> omega]; exact RDrive.gn h j w h1 h2 j1
    by_cases j2 : 900 < j
    · rw [show jobsV j = 0 from by unfold jobsV; split <;> omega]; exact RDrive.gm h j w h1 h2 j2
    · rw [show jobsV j = j.toNat from by unfold jobsV; rw [if_neg j2]]; exact RDrive.gg h j j.toNat w h1 h2 (by omega) (by omega)

end Dd
end Go.Proofs.Ytiokjjadpobciaa.P
