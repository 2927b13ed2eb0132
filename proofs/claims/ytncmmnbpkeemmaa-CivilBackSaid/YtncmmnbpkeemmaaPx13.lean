-- laid by wip/tools/xprint.py of this claim's session (the kit's print.py, and texts of our own); Lean checks it
import Derived.Test.YtncmmnbpkeemmaaPx0
import Derived.Test.YtncmmnbpkeemmaaPx2
import Derived.Test.YtncmmnbpkeemmaaPx4
import Derived.Test.YtncmmnbpkeemmaaPx5
namespace Go.Proofs.Ytncmmnbpkeemmaa.P
open Go.RowKit Go.Proofs.YtncmmnbpkeemmaaW.PrintWords Go.Proofs.YtncmmnbpkeemmaaW.PrintLast Go.Proofs.YtncmmnbpkeemmaaW.PrintMore
attribute [local go_sem] max2_int min2_int max_two min_two max_three min_three max_four min_four   -- for this text's walks alone
set_option linter.unusedVariables false
set_option linter.unusedSimpArgs false

/-! ### civil_Parse: function 42 -/
-- HAND rounds=1 making=1
def ArrIs (g : Nat) (n : List Int) (w : World) : Prop := w.heap[g]? = some (.cells (n.map (Value.int .i64)).toArray 58 (0, 0))
theorem ArrIs.cell {b : Nat} {l : List Int} {w : World} (h : ArrIs b l w) (i : Nat) (hi : i < l.length) : w.cell? ⟨b, i, none⟩ = some (.int .i64 (l.getD i 0)) := by
  unfold ArrIs at h
  simp [World.cell?, h, hi]
theorem ArrIs.free {b : Nat} {l : List Int} {w : World} (h : ArrIs b l w) (i : Nat) : w.frozen? ⟨b, i, none⟩ = false := by
  unfold ArrIs at h
  simp [World.frozen?, h]
theorem ArrIs.lt {b : Nat} {l : List Int} {w : World} (h : ArrIs b l w) : b < w.heap.size := lt_of_block h
theorem ArrIs.set {b : Nat} {l : List Int} {w : World} (h : ArrIs b l w) (i : Nat) (v : Int) : ArrIs b (l.set i v) (w.setCell ⟨b, i, none⟩ (.int .i64 v)) := by
  have hlt := h.lt
  unfold ArrIs at *
  have h' : w.heap[b] = .cells (l.map (Value.int .i64)).toArray 58 (0, 0) := by simpa [Array.getElem?_eq_getElem hlt] using h
  show (w.heap.modify b _)[b]? = _
  rw [Array.getElem?_eq_getElem (by simpa using hlt), Array.getElem_modify_self, h']
  simp [List.map_set]

def byt (s : ByteArray) (j : Nat) : Int := (s.data.toList.getD j 0).toNat
def BytesAt (b : Nat) (s : ByteArray) (w : World) : Prop := ∀ j, j < s.size → w.cell? ⟨b, j, none⟩ = some (.int .u8 (byt s j))
theorem BytesAt.far {b : Nat} {s : ByteArray} {w : World} (h : BytesAt b s w) (g i : Nat) (v : Value) (hne : b ≠ g) : BytesAt b s (w.setCell ⟨g, i, none⟩ v) := fun j hj => by
  have := h j hj
  rw [World.cell?_of_block (w := w) (Below.heap_setCell _ _ _ _ (by simpa using hne))]; exact this

def frm (i : Nat) : Int := textRow.getD i 0
theorem form_at (i : Nat) (h : i < (⟨#[48, 48, 48, 48, 45, 48, 48, 45, 48, 48, 84, 48, 48]⟩ : ByteArray).size) : ((((⟨#[48, 48, 48, 48, 45, 48, 48, 45, 48, 48, 84, 48, 48]⟩ : ByteArray)[i]'h).toNat : Nat) : Int) = frm i := by
  have h' : i < 13 := h
  match i, h, h' with
  | 0, _, _ => rfl
  | 1, _, _ => rfl
  | 2, _, _ => rfl
  | 3, _, _ => rfl
  | 4, _, _ => rfl
  | 5, _, _ => rfl
  | 6, _, _ => rfl
  | 7, _, _ => rfl
  | 8, _, _ => rfl
  | 9, _, _ => rfl
  | 10, _, _ => rfl
  | 11, _, _ => rfl
  | 12, _, _ => rfl
  | n + 13, _, h => omega

/-- The letters from i on, d of them: none: not told; some none: refused; some n: the four numbers. -/
def parL (s : ByteArray) : Nat → Nat → Nat → List Int → Option (Option (List Int))
  | 0, _, _, n => some (some n)
  | d + 1, i, at_, n =>
    if frm i = 48 then
      if byt s i < 48 then some none else if 57 < byt s i then some none
      else if at_ < 4 then parL s d (i + 1) at_ (n.set at_ (wrap64 (wrap64 (n.getD at_ 0 * 10) + (byt s i - 48)))) else none
    else if byt s i = frm i then parL s d (i + 1) (at_ + 1) n else some none

def ParPost (B : Nat) (w0 : World) (r1 : Int) (r2 : Bool) (e : Ending) (w' : World) : Prop := e = .returned (.tuple #[.int .i64 r1, .bool r2]) ∧ Below B w0 w'
def numG (l : List Int) (i : Nat) : Int := l.getD i 0
def parEnd (k : Nat) : Option (List Int) → Option (Int × Bool)
  | none => some (0, false)
  | some n => (civil_Number.f k (numG n 0) (numG n 1) (numG n 2)).bind fun d =>
    if d.2 = true then (if 24 ≤ numG n 3 then some (0, false) else if 16777216 < wrap64 (wrap64 (d.1 * 24) + numG n 3) then some (0, false) else some (wrap64 (wrap64 (d.1 * 24) + numG n 3), true)) else some (0, false)
def civil_Parse.f (k : Nat) (a0 : ByteArray) : Option (Int × Bool) :=
  if a0.size = 13 then (parL a0 13 0 0 [0, 0, 0, 0]).bind fun r => parEnd k r else some (0, false)
theorem parEnd.mono (k : Nat) (r : Option (List Int)) : LeO (parEnd k r) (parEnd (k + 1) r) := by
  cases r with
  | none => exact LeO.refl _
  | some n => exact LeO.bind (civil_Number.mono _ _ _ _) (fun _ => LeO.refl _)
theorem civil_Parse.mono : ∀ a0 k, LeO (civil_Parse.f k a0) (civil_Parse.f (k + 1) a0) := by
  intro a0 k
  unfold civil_Parse.f
  refine LeO.ite (LeO.bind (LeO.refl _) (fun r => parEnd.mono k r)) (LeO.refl _)
set_option maxHeartbeats 8000000 in
set_option maxRecDepth 100000 in
theorem civil_Parse.callsA (k : Nat) (a0 : ByteArray) (w : World) (r : Option (List Int)) (r1 : Int) (r2 : Bool) (h : a0.size = 13) (hp : parL a0 13 0 0 [0, 0, 0, 0] = some r) (he : parEnd k r = some (r1, r2)) :
    Calls Try.prog 42 #[.string a0] w (ParPost w.heap.size w r1 r2) := by
  have kc := fun (w : World) (s : ByteArray) => Lib.run_convert_string_bytes (P := Try.prog) w 9 59 5 s Try.underlying9 Try.underlying59 Try.underlying5
  have hJ : ((a0.size : Int) != 13) = false := by simp [h]
  have HP := Aside0.mk hp
  have HE := Aside0.mk he
  clear hp he
  go_enter Try.func42, Try.ntmps42
  go_wp2
  go_step3
  go_wp2
  go_step3
  go_wp2
  obtain ⟨W, hW⟩ : ∃ W, W = (Lib.bytesWorld (w.alloc (.cells #[.int .i64 0, .int .i64 0, .int .i64 0, .int .i64 0] 58)) 5 a0) := ⟨_, rfl⟩
  rw [← hW]
  have HA := Aside0.mk (show ArrIs w.heap.size [0, 0, 0, 0] W by subst hW; unfold ArrIs; rw [Lib.bytesWorld_at_old _ _ _ _ (by simp), heap_new]; rfl)
  have HC := Aside0.mk (show BytesAt (w.heap.size + 1) a0 W by
    subst hW; intro j hj
    have := Lib.bytesWorld_cell (w.alloc (.cells #[.int .i64 0, .int .i64 0, .int .i64 0, .int .i64 0] 58)) 5 a0 j hj
    simpa [byt] using this)
  have HB := Aside0.mk (show Below w.heap.size w W by
    subst hW
    refine ((Below.refl _ w).alloc (Nat.le_refl _) _).trans ⟨rfl, rfl, rfl, by rw [Lib.bytesWorld_size]; omega, fun k hk => Lib.bytesWorld_at_old _ _ _ _ (by simp; omega)⟩)
  have H13 := Aside0.mk h
  clear hW kc
  generalize grownCap _ 13 0 5 = cap
  clear h hJ
  go_loopw [5, 17] (fun x5 x17 wr => ∃ (i at_ : Nat) (n : List Int), x5 = .int .i64 at_ ∧ x17 = .int .i64 i ∧ i ≤ 13 ∧ at_ ≤ i ∧ Aside0 (n.length = 4) ∧ Aside0 (ArrIs w.heap.size n wr) ∧ Aside0 (BytesAt (w.heap.size + 1) a0 wr) ∧ Aside0 (Below w.heap.size w wr) ∧ Aside0 (parL a0 (13 - i) i at_ n = some r)) (fun _ x17 _ => 13 - (intOf x17).toNat)
  case atStart => exact ⟨0, 0, _, rfl, rfl, by omega, by omega, ⟨rfl⟩, HA, HC, HB, HP⟩
  case round =>
    clear HA HC HB HP
    obtain ⟨i, at_, n, rfl, rfl, hi, hat, HL, HA, HC, HB, HP⟩ := hrel
    by_cases hlt : i < 13
    · have hc := HC.out i (by rw [H13.out]; omega)
      have hform := form_at i
      have H1 := HP.out
      rw [show 13 - i = (13 - (i + 1)) + 1 from by omega, parL] at H1
      by_cases h48 : frm i = 48
      · rw [if_pos h48] at H1
        have hb48 : (frm i != 48) = false := by simp [h48]
        clear h48
        by_cases c1 : byt a0 i < 48
        · rw [if_pos c1] at H1
          have HE2 := Aside0.mk (show parEnd k none = some (r1, r2) by rw [Option.some.inj H1]; exact HE.out)
          clear H1 HP HE
          go_wp2
          try rw [Exit.noGoto_ret]
          go_ret2
          simp only [parEnd, Option.some.injEq, Prod.mk.injEq] at HE2
          obtain ⟨rfl, rfl⟩ := HE2.out
          exact ⟨rfl, HB.out⟩
        · rw [if_neg c1] at H1
          have hg : 48 ≤ byt a0 i := by omega
          by_cases c2 : 57 < byt a0 i
          · rw [if_pos c2] at H1
            have HE2 := Aside0.mk (show parEnd k none = some (r1, r2) by rw [Option.some.inj H1]; exact HE.out)
            clear H1 HP HE
            go_wp2
            try rw [Exit.noGoto_ret]
            go_ret2
            simp only [parEnd, Option.some.injEq, Prod.mk.injEq] at HE2
            obtain ⟨rfl, rfl⟩ := HE2.out
            exact ⟨rfl, HB.out⟩
          · rw [if_neg c2] at H1
            have hg2 : byt a0 i ≤ 57 := by omega
            by_cases c3 : at_ < 4
            · rw [if_pos c3] at H1
              have H2 := Aside0.mk H1
              clear H1 HP c1 c2
              have hca := HA.out.cell at_ (by rw [HL.out]; omega)
              have hfa := HA.out.free at_
              go_wp2
              go_roundw
              case rel => exact ⟨i + 1, at_, _, rfl, by go_num, by omega, by omega, ⟨by rw [List.length_set]; exact HL.out⟩, ⟨HA.out.set at_ _⟩, ⟨HC.out.far _ _ _ (by omega)⟩, ⟨HB.out.setCell (Nat.le_refl _) _⟩, H2⟩
              case measure => simp [intOf]; omega
            · rw [if_neg c3] at H1
              exact absurd H1 (by simp)
      · rw [if_neg h48] at H1
        have hb48 : (frm i != 48) = true := by simpa using h48
        by_cases c1 : byt a0 i = frm i
        · rw [if_pos c1] at H1
          have H2 := Aside0.mk H1
          have hcb : (byt a0 i != frm i) = false := by simpa using c1
          clear H1 HP h48 c1
          go_wp2
          go_roundw
          case rel => exact ⟨i + 1, at_ + 1, n, by go_num, by go_num, by omega, by omega, HL, HA, HC, HB, H2⟩
          case measure => simp [intOf]; omega
        · rw [if_neg c1] at H1
          have hcb : (byt a0 i != frm i) = true := by simpa using c1
          have HE2 := Aside0.mk (show parEnd k none = some (r1, r2) by rw [Option.some.inj H1]; exact HE.out)
          clear H1 HP HE h48 c1
          go_wp2
          try rw [Exit.noGoto_ret]
          go_ret2
          simp only [parEnd, Option.some.injEq, Prod.mk.injEq] at HE2
          obtain ⟨rfl, rfl⟩ := HE2.out
          exact ⟨rfl, HB.out⟩
    · obtain rfl : i = 13 := by omega
      have H1 := HP.out
      rw [Nat.sub_self, parL, Option.some.injEq] at H1
      have HE2 := Aside0.mk (show parEnd k (some n) = some (r1, r2) by rw [H1]; exact HE.out)
      clear H1 HP HE
      have h0 := HA.out.cell 0 (by rw [HL.out]; omega)
      have h1 := HA.out.cell 1 (by rw [HL.out]; omega)
      have h2 := HA.out.cell 2 (by rw [HL.out]; omega)
      have h3 := HA.out.cell 3 (by rw [HL.out]; omega)
      change wr.cell? _ = some (.int .i64 (numG n 0)) at h0
      change wr.cell? _ = some (.int .i64 (numG n 1)) at h1
      change wr.cell? _ = some (.int .i64 (numG n 2)) at h2
      change wr.cell? _ = some (.int .i64 (numG n 3)) at h3
      replace HE := HE2.out
      clear HE2
      unfold parEnd at HE
      replace HE := Option.bind_eq_some_iff.mp HE
      obtain ⟨⟨dd, is⟩, hA, hE⟩ := HE
      have A := Aside0.mk hA
      clear hA
      have fin : ∀ {x : Int} {b : Bool} {wz : World}, r1 = x → r2 = b → Below w.heap.size w wz → ParPost w.heap.size w r1 r2 (.returned (.tuple #[.int .i64 x, .bool b])) wz := fun e1 e2 hb => ⟨by rw [e1, e2], hb⟩
      cases is with
      | false =>
        simp only [Bool.false_eq_true, if_false, Option.some.injEq, Prod.mk.injEq] at hE
        have E := Aside0.mk hE
        clear hE
        go_wp2_with (first | (go_at_call 25; (with_reducible refine (civil_Number.calls k _ _ _ dd _ _ A.out).mono ?_); rintro e w1 ⟨rfl, ⟨nd, rfl⟩⟩))
        try rw [Exit.noGoto_ret]
        go_ret2
        exact fin E.out.1.symm E.out.2.symm (pw_below_drewN HB.out _)
      | true =>
        simp only [if_true] at hE
        by_cases c3 : 24 ≤ numG n 3
        · rw [if_pos c3] at hE
          simp only [Option.some.injEq, Prod.mk.injEq] at hE
          have E := Aside0.mk hE
          clear hE
          go_wp2_with (first | (go_at_call 25; (with_reducible refine (civil_Number.calls k _ _ _ dd _ _ A.out).mono ?_); rintro e w1 ⟨rfl, ⟨nd, rfl⟩⟩))
          try rw [Exit.noGoto_ret]
          go_ret2
          exact fin E.out.1.symm E.out.2.symm (pw_below_drewN HB.out _)
        · rw [if_neg c3] at hE
          have d3 : decide (24 ≤ numG n 3) = false := by simpa using c3
          by_cases c4 : 16777216 < wrap64 (wrap64 (dd * 24) + numG n 3)
          · rw [if_pos c4] at hE
            simp only [Option.some.injEq, Prod.mk.injEq] at hE
            have E := Aside0.mk hE
            clear hE
            go_wp2_with (first | (go_at_call 25; (with_reducible refine (civil_Number.calls k _ _ _ dd _ _ A.out).mono ?_); rintro e w1 ⟨rfl, ⟨nd, rfl⟩⟩))
            try rw [Exit.noGoto_ret]
            go_ret2
            exact fin E.out.1.symm E.out.2.symm (pw_below_drewN HB.out _)
          · rw [if_neg c4] at hE
            simp only [Option.some.injEq, Prod.mk.injEq] at hE
            have E := Aside0.mk hE
            clear hE
            go_wp2_with (first | (go_at_call 25; (with_reducible refine (civil_Number.calls k _ _ _ dd _ _ A.out).mono ?_); rintro e w1 ⟨rfl, ⟨nd, rfl⟩⟩))
            try rw [Exit.noGoto_ret]
            go_ret2
            exact fin E.out.1.symm E.out.2.symm (pw_below_drewN HB.out _)

set_option maxHeartbeats 8000000 in
set_option maxRecDepth 100000 in
theorem civil_Parse.calls (k : Nat) (a0 : ByteArray) (r1 : Int) (r2 : Bool) (w : World) (h : civil_Parse.f k a0 = some (r1, r2)) :
    Calls Try.prog 42 #[.string a0] w fun e w' => e = .returned (.tuple #[.int .i64 r1, .bool r2]) ∧ Below w.heap.size w w' := by
  unfold civil_Parse.f at h
  by_cases c : a0.size = 13
  · rw [if_pos c] at h
    obtain ⟨r, h1, h2⟩ := Option.bind_eq_some_iff.mp h
    exact (civil_Parse.callsA k a0 w r r1 r2 c h1 h2).mono fun _ _ h => h
  · rw [if_neg c] at h
    simp only [Option.some.injEq, Prod.mk.injEq] at h
    obtain ⟨rfl, rfl⟩ := h
    have hJ : ((a0.size : Int) != 13) = true := by rw [bne_iff_ne]; omega
    clear c
    go_enter Try.func42, Try.ntmps42
    go_wp2
    go_step3
    go_wp2
    try rw [Exit.noGoto_ret]
    go_ret2
    exact ⟨rfl, Below.refl _ _⟩

/-! ### ossuaryref04_digits: function 57 -/
def ossuaryref04_digits.l0 : Nat → Int → Int → ByteArray → Int → Option (ByteArray)
  | 0, _, _, _, _ => none
  | k + 1, x0, x1, x5, x6 => if x6 < x1 then ((some (([(wrap64 (48 + (Int.tmod x0 10))) % 256] : List Int) : List Int)).bind fun y314 => (if (strOfNums y314).size + x5.size ≤ 9223372036854775807 then (ossuaryref04_digits.l0 k (wrap64 (Int.tdiv x0 10)) x1 ((strOfNums y314) ++ x5) (wrap64 (x6 + 1))) else (none))) else (some x5)
def ossuaryref04_digits.f (k : Nat) (a0 : Int) (a1 : Int) : Option (ByteArray) := ossuaryref04_digits.l0 k a0 a1 (⟨#[]⟩ : ByteArray) 0
theorem ossuaryref04_digits.mono_l : ∀ k, (∀ y0 y1 y2 y3, LeO (ossuaryref04_digits.l0 k y0 y1 y2 y3) (ossuaryref04_digits.l0 (k + 1) y0 y1 y2 y3))
  | 0 => fun _ _ _ _ r h => by simp [ossuaryref04_digits.l0] at h
  | k + 1 => by
    have ih0 := ossuaryref04_digits.mono_l k
    · intro y0 y1 y2 y3
      unfold ossuaryref04_digits.l0
      repeat' first
      | (with_reducible exact ih0 _ _ _ _)
      | (with_reducible exact LeO.refl _)
      | (with_reducible exact LeO.none _)
      | (with_reducible refine LeO.ite ?_ ?_)
      | (with_reducible refine LeO.bind ?_ (fun _ => ?_))
      | exact ih0 _ _ _ _
      | exact LeO.none _
      | refine LeO.ite ?_ ?_
      | refine LeO.bind ?_ (fun _ => ?_)
theorem ossuaryref04_digits.mono : ∀ a0 a1 k, LeO (ossuaryref04_digits.f k a0 a1) (ossuaryref04_digits.f (k + 1) a0 a1) := by
  intro a0 a1 k
  have ih0 := ossuaryref04_digits.mono_l k
  unfold ossuaryref04_digits.f
  repeat' first
      | (with_reducible exact ih0 _ _ _ _)
      | (with_reducible exact LeO.refl _)
      | (with_reducible exact LeO.none _)
      | (with_reducible refine LeO.ite ?_ ?_)
      | (with_reducible refine LeO.bind ?_ (fun _ => ?_))
      | exact ih0 _ _ _ _
      | exact LeO.none _
      | refine LeO.ite ?_ ?_
      | refine LeO.bind ?_ (fun _ => ?_)
set_option maxHeartbeats 8000000 in
set_option maxRecDepth 100000 in
theorem ossuaryref04_digits.calls (k : Nat) (a0 : Int) (a1 : Int) (r : ByteArray) (w : World) (h : ossuaryref04_digits.f k a0 a1 = some r) :
    Calls Try.prog 57 #[.int .i64 a0, .int .i64 a1] w fun e w' => e = .returned (.string r) ∧ Below w.heap.size w w' := by
  have HB := Aside0.mk (Below.refl w.heap.size w)
  have H : (ossuaryref04_digits.l0 k a0 a1 (⟨#[]⟩ : ByteArray) 0) = some r := h
  clear h
  have H' := Aside0.mk H
  clear H
  go_enter Try.func57, Try.ntmps57
  go_wp2
  go_loopg [0, 5, 6] k (fun kq v0 v5 v6 w' => ∃ (x0_1 : Int) (x5_1 : ByteArray) (x6_1 : Int), v0 = .int .i64 x0_1 ∧ v5 = .string x5_1 ∧ v6 = .int .i64 x6_1 ∧ Aside0 (ossuaryref04_digits.l0 kq x0_1 a1 x5_1 x6_1 = some r) ∧ Aside0 (kq ≤ k) ∧ Aside0 (Below w.heap.size w w'))
  case atStart => exact ⟨(a0), ((⟨#[]⟩ : ByteArray)), (0), (by first | rfl | (simp; done) | (simp [*]; done)), (by first | rfl | (simp; done) | (simp [*]; done)), (by first | rfl | (simp; done) | (simp [*]; done)), H', ⟨Nat.le_refl _⟩, ⟨by repeat (first | (with_reducible first | exact HB.out | apply below_alloc | apply pw_below_drewN | apply below_drew1) | exact HB.out)⟩⟩
  case round =>
    clear H'
    try clear p2
    obtain ⟨x0_1, x5_1, x6_1, rfl, rfl, rfl, HA, HK1, HB⟩ := hrel
    cases gk with
    | zero => exact absurd HA.out (by simp [ossuaryref04_digits.l0])
    | succ k1 =>
      have H := HA.out
      clear HA
      simp only [ossuaryref04_digits.l0] at H
      by_cases c3 : x6_1 < a1
      · rw [if_pos c3] at H
        have c3b0 : decide (x6_1 < a1) = true := decide_eq_true c3
        clear c3
        obtain ⟨y314, hy314⟩ : ∃ y_ : List Int, y_ = (([(wrap64 (48 + (Int.tmod x0_1 10))) % 256] : List Int)) := ⟨_, rfl⟩
        replace H : (if (strOfNums y314).size + x5_1.size ≤ 9223372036854775807 then (ossuaryref04_digits.l0 k1 (wrap64 (Int.tdiv x0_1 10)) a1 ((strOfNums y314) ++ x5_1) (wrap64 (x6_1 + 1))) else (none)) = some r := by first | (rw [hy314]; with_reducible exact H) | (have H2_ := (Option.bind_some _ _).symm.trans H; rw [hy314]; with_reducible exact H2_) | (have H2_ := (Option.bind_some _ _).symm.trans H; with_reducible exact H2_) | with_reducible exact H | (rw [hy314]; exact H) | exact H
        have Ny314 := Aside0.mk hy314
        clear hy314
        by_cases c4 : (strOfNums y314).size + x5_1.size ≤ 9223372036854775807
        · rw [if_pos c4] at H
          have c4b0 := eq_true c4
          have c4b1 : decide ((strOfNums y314).size + x5_1.size ≤ 9223372036854775807) = true := decide_eq_true c4
          try have c4b2 : (9223372036854775807 < (strOfNums y314).size + x5_1.size) = False := eq_false (Nat.not_lt.2 c4)
          have H' := Aside0.mk H
          clear H
          go_wp2_with (first | ((with_reducible refine gate_dst (N := 16) rfl ?_); refine Kd.R_lit (Kd.int .u8) _ 5 ?hg (N := 16) ?hd (xs := ([(wrap64 (48 + (Int.tmod x0_1 10))) % 256] : List Int)) (inner := [.int .u8 ((wrap64 (48 + (Int.tmod x0_1 10))) % 256)]) (ok := fun _ => True) (okp := fun _ => True) ?hr ?hp (fun _ hk => hk) trivial (Below.refl _ _) (Nat.le_refl _) (by simp) ?_; (case hd => rfl); (case hg => rfl); (case hr => first | (go_simp; done) | (go_simp; rfl)); (case hp => exact (Reps.one (show Kd.M (Kd.int .u8) _ _ _ ((wrap64 (48 + (Int.tmod x0_1 10))) % 256) [.int .u8 ((wrap64 (48 + (Int.tmod x0_1 10))) % 256)] from rfl) (Reps.none _ _))); intro v315 w5 ho6 hb hg_ hnew_; clear hg_ hnew_; (first | rw [← Ny314.out] at ho6 | (simp only [Int.reduceToNat] at ho6; rw [← Ny314.out] at ho6)); have n0_ := Aside0.mk (Kd.R_lower ho6 (below_size (by repeat (first | (with_reducible first | exact HB.out | apply below_alloc | apply pw_below_drewN | apply below_drew1) | exact HB.out)))); have n1_ := Aside0.mk (below_step (by repeat (first | (with_reducible first | exact HB.out | apply below_alloc | apply pw_below_drewN | apply below_drew1) | exact HB.out)) hb); clear HB; have HO316 := n0_; have HB := n1_; clear n0_ n1_; clear hb ho6; have hcv7 := own_string (P := Try.prog) Try.underlying59 Try.underlying5 Try.underlying9 (Kd.own_of_R HO316.out)))
          go_roundg k1
          case measure => have := HK1.out; omega
          case rel => exact ⟨(wrap64 (Int.tdiv x0_1 10)), ((strOfNums y314) ++ x5_1), (wrap64 (x6_1 + 1)), (by first | rfl | (simp; done) | (simp [*]; done)), (by first | rfl | (simp; done) | (simp [*]; done)), (by first | rfl | (simp; done) | (simp [*]; done)), H', ⟨by have := HK1.out; omega⟩, ⟨by repeat (first | (with_reducible first | exact HB.out | apply below_alloc | apply pw_below_drewN | apply below_drew1) | exact HB.out)⟩⟩
        · rw [if_neg c4] at H
          exact absurd H (by simp)
      · rw [if_neg c3] at H
        have c3b0 : decide (x6_1 < a1) = false := decide_eq_false c3
        clear c3
        obtain rfl := Option.some.inj H
        go_wp2
        go_ret
        exact ⟨by first | rfl | (simp [errW_none, errW_some] <;> rfl) | (simp [*, errW_none, errW_some] <;> rfl), by repeat (first | (with_reducible first | exact HB.out | apply below_alloc | apply pw_below_drewN | apply below_drew1) | exact HB.out)⟩

/-! ### ossuaryref04_Text: function 45 -/
-- HAND rounds=1 making=1
def dashes (a b c d : ByteArray) : ByteArray := (((((a ++ (⟨#[45]⟩ : ByteArray)) ++ b) ++ (⟨#[45]⟩ : ByteArray)) ++ c) ++ (⟨#[84]⟩ : ByteArray)) ++ d
def ossuaryref04_Text.f (k : Nat) (a0 : Int) : Option ByteArray :=
  (ossuaryref04_Date.f k (wrap64 (Int.tdiv a0 24))).bind fun dt => (ossuaryref04_digits.f k dt.1 4).bind fun s1 => (ossuaryref04_digits.f k dt.2.1 2).bind fun s2 => (ossuaryref04_digits.f k dt.2.2 2).bind fun s3 => (ossuaryref04_digits.f k (Int.tmod a0 24) 2).bind fun s4 =>
    if s1.size ≤ 100 ∧ s2.size ≤ 100 ∧ s3.size ≤ 100 ∧ s4.size ≤ 100 then some (dashes s1 s2 s3 s4) else none
theorem ossuaryref04_Text.mono : ∀ a0 k, LeO (ossuaryref04_Text.f k a0) (ossuaryref04_Text.f (k + 1) a0) := by
  intro a0 k
  unfold ossuaryref04_Text.f
  exact LeO.bind (ossuaryref04_Date.mono _ _) fun _ => LeO.bind (ossuaryref04_digits.mono _ _ _) fun _ => LeO.bind (ossuaryref04_digits.mono _ _ _) fun _ => LeO.bind (ossuaryref04_digits.mono _ _ _) fun _ => LeO.bind (ossuaryref04_digits.mono _ _ _) fun _ => LeO.refl _
set_option maxHeartbeats 8000000 in
set_option maxRecDepth 100000 in
theorem ossuaryref04_Text.calls (k : Nat) (a0 : Int) (r : ByteArray) (w : World) (h : ossuaryref04_Text.f k a0 = some r) :
    Calls Try.prog 45 #[.int .i64 a0] w fun e w' => e = .returned (.string r) ∧ Below w.heap.size w w' := by
  unfold ossuaryref04_Text.f at h
  replace h := Option.bind_eq_some_iff.mp h
  obtain ⟨⟨y, m, d⟩, h1, h⟩ := h
  replace h := Option.bind_eq_some_iff.mp h
  obtain ⟨s1, h2, h⟩ := h
  replace h := Option.bind_eq_some_iff.mp h
  obtain ⟨s2, h3, h⟩ := h
  replace h := Option.bind_eq_some_iff.mp h
  obtain ⟨s3, h4, h⟩ := h
  replace h := Option.bind_eq_some_iff.mp h
  obtain ⟨s4, h5, h⟩ := h
  split at h
  case isFalse => exact absurd h (by simp)
  rename_i hc
  obtain ⟨z1, z2, z3, z4⟩ := hc
  have hr := Option.some.inj h
  unfold dashes at hr
  subst hr
  clear h
  have A1 := Aside0.mk h1
  have A2 := Aside0.mk h2
  have A3 := Aside0.mk h3
  have A4 := Aside0.mk h4
  have A5 := Aside0.mk h5
  clear h1 h2 h3 h4 h5
  go_enter Try.func45, Try.ntmps45
  go_wp2_with fail
  refine (ossuaryref04_Date.calls k _ y m d _ A1.out).mono ?_
  rintro e w1 ⟨rfl, hb⟩
  have B1 := Aside0.mk (show Below w.heap.size w w1 from by first | exact hb | exact hb.below)
  clear hb
  go_wp2_with fail
  refine (ossuaryref04_digits.calls k y 4 s1 _ A2.out).mono ?_
  rintro e w2 ⟨rfl, hb⟩
  have B2 := Aside0.mk (B1.out.trans (hb.mono B1.out.size))
  clear hb B1
  go_wp2_with fail
  refine (ossuaryref04_digits.calls k m 2 s2 _ A3.out).mono ?_
  rintro e w3 ⟨rfl, hb⟩
  have B3 := Aside0.mk (B2.out.trans (hb.mono B2.out.size))
  clear hb B2
  go_wp2_with fail
  refine (ossuaryref04_digits.calls k d 2 s3 _ A4.out).mono ?_
  rintro e w4 ⟨rfl, hb⟩
  have B4 := Aside0.mk (B3.out.trans (hb.mono B3.out.size))
  clear hb B3
  go_wp2_with fail
  refine (ossuaryref04_digits.calls k _ 2 s4 _ A5.out).mono ?_
  rintro e w5 ⟨rfl, hb⟩
  have B5 := Aside0.mk (B4.out.trans (hb.mono B4.out.size))
  clear hb B4
  go_wp2
  go_ret
  exact ⟨rfl, B5.out⟩

/-! ### ossuaryref04_number: function 55 -/
def ossuaryref04_number.l0 : Nat → ByteArray → Int → Int → Option (Int)
  | 0, _, _, _ => none
  | k + 1, x0, x3, x4 => if x4 < (x0.size : Int) then (if 0 ≤ x4 then (if (bt x0 x4) ≥ 48 then (if (bt x0 x4) ≤ 57 then (ossuaryref04_number.l0 k x0 (wrap64 ((wrap64 (x3 * 10)) + (((bt x0 x4) - 48) % 256))) (wrap64 (x4 + 1))) else (ossuaryref04_number.l0 k x0 x3 (wrap64 (x4 + 1)))) else (ossuaryref04_number.l0 k x0 x3 (wrap64 (x4 + 1)))) else (none)) else (some x3)
def ossuaryref04_number.f (k : Nat) (a0 : ByteArray) : Option (Int) := ossuaryref04_number.l0 k a0 0 0
theorem ossuaryref04_number.mono_l : ∀ k, (∀ y0 y1 y2, LeO (ossuaryref04_number.l0 k y0 y1 y2) (ossuaryref04_number.l0 (k + 1) y0 y1 y2))
  | 0 => fun _ _ _ r h => by simp [ossuaryref04_number.l0] at h
  | k + 1 => by
    have ih0 := ossuaryref04_number.mono_l k
    · intro y0 y1 y2
      unfold ossuaryref04_number.l0
      repeat' first
      | (with_reducible exact ih0 _ _ _)
      | (with_reducible exact LeO.refl _)
      | (with_reducible exact LeO.none _)
      | (with_reducible refine LeO.ite ?_ ?_)
      | (with_reducible refine LeO.bind ?_ (fun _ => ?_))
      | exact ih0 _ _ _
      | exact LeO.none _
      | refine LeO.ite ?_ ?_
      | refine LeO.bind ?_ (fun _ => ?_)
theorem ossuaryref04_number.mono : ∀ a0 k, LeO (ossuaryref04_number.f k a0) (ossuaryref04_number.f (k + 1) a0) := by
  intro a0 k
  have ih0 := ossuaryref04_number.mono_l k
  unfold ossuaryref04_number.f
  repeat' first
      | (with_reducible exact ih0 _ _ _)
      | (with_reducible exact LeO.refl _)
      | (with_reducible exact LeO.none _)
      | (with_reducible refine LeO.ite ?_ ?_)
      | (with_reducible refine LeO.bind ?_ (fun _ => ?_))
      | exact ih0 _ _ _
      | exact LeO.none _
      | refine LeO.ite ?_ ?_
      | refine LeO.bind ?_ (fun _ => ?_)
set_option maxHeartbeats 8000000 in
set_option maxRecDepth 100000 in
theorem ossuaryref04_number.calls (k : Nat) (a0 : ByteArray) (r : Int) (w : World) (h : ossuaryref04_number.f k a0 = some r) :
    Calls Try.prog 55 #[.string a0] w fun e w' => e = .returned (.int .i64 r) ∧ Drawn0 w w' := by
  have H : (ossuaryref04_number.l0 k a0 0 0) = some r := h
  clear h
  have H' := Aside0.mk H
  clear H
  go_enter Try.func55, Try.ntmps55
  go_wp2
  go_loopg [3, 4] k (fun kq v3 v4 w' => ∃ (x3_1 : Int) (x4_1 : Int), v3 = .int .i64 x3_1 ∧ v4 = .int .i64 x4_1 ∧ Aside0 (ossuaryref04_number.l0 kq a0 x3_1 x4_1 = some r) ∧ Aside0 (kq ≤ k) ∧ Drawn0 w w')
  case atStart => exact ⟨(0), (0), (by first | rfl | (simp; done) | (simp [*]; done)), (by first | rfl | (simp; done) | (simp [*]; done)), H', ⟨Nat.le_refl _⟩, by repeat (first | exact Drawn0.refl _ | apply Drawn0.step)⟩
  case round =>
    clear H'
    obtain ⟨x3_1, x4_1, rfl, rfl, HA, HK1, ⟨m1, rfl⟩⟩ := hrel
    cases gk with
    | zero => exact absurd HA.out (by simp [ossuaryref04_number.l0])
    | succ k1 =>
      have H := HA.out
      clear HA
      simp only [ossuaryref04_number.l0] at H
      by_cases c2 : x4_1 < (a0.size : Int)
      · rw [if_pos c2] at H
        have c2b0 : decide (x4_1 < (a0.size : Int)) = true := decide_eq_true c2
        clear c2
        by_cases c3 : 0 ≤ x4_1
        · rw [if_pos c3] at H
          have c3b0 : decide (0 ≤ x4_1) = true := decide_eq_true c3
          clear c3
          by_cases c5 : (bt a0 x4_1) ≥ 48
          · rw [if_pos c5] at H
            have c5b0 : decide (48 ≤ (bt a0 x4_1)) = true := decide_eq_true c5
            clear c5
            by_cases c7 : (bt a0 x4_1) ≤ 57
            · rw [if_pos c7] at H
              have c7b0 : decide ((bt a0 x4_1) ≤ 57) = true := decide_eq_true c7
              clear c7
              have H' := Aside0.mk H
              clear H
              have p4 : 0 ≤ (x4_1 : Int) := of_decide_eq_true (by first | (with_reducible assumption) | assumption)
              have q4 : x4_1 < (a0.size : Int) := of_decide_eq_true (by first | (with_reducible assumption) | assumption)
              have hx4 := bt_at a0 x4_1
              replace p4 := eq_true p4
              replace q4 := eq_true q4
              have p6 : 0 ≤ (x4_1 : Int) := of_decide_eq_true (by first | (with_reducible assumption) | assumption)
              have q6 : x4_1 < (a0.size : Int) := of_decide_eq_true (by first | (with_reducible assumption) | assumption)
              have hx6 := bt_at a0 x4_1
              replace p6 := eq_true p6
              replace q6 := eq_true q6
              have p8 : 0 ≤ (x4_1 : Int) := of_decide_eq_true (by first | (with_reducible assumption) | assumption)
              have q8 : x4_1 < (a0.size : Int) := of_decide_eq_true (by first | (with_reducible assumption) | assumption)
              have hx8 := bt_at a0 x4_1
              replace p8 := eq_true p8
              replace q8 := eq_true q8
              go_wp2
              go_roundg k1
              case measure => have := HK1.out; omega
              case rel => exact ⟨(wrap64 ((wrap64 (x3_1 * 10)) + (((bt a0 x4_1) - 48) % 256))), (wrap64 (x4_1 + 1)), (by first | rfl | (simp; done) | (simp [*]; done)), (by first | rfl | (simp; done) | (simp [*]; done)), H', ⟨by have := HK1.out; omega⟩, by repeat (first | exact Drawn0.refl _ | apply Drawn0.step)⟩
            · rw [if_neg c7] at H
              have c7b0 : decide ((bt a0 x4_1) ≤ 57) = false := decide_eq_false c7
              clear c7
              have H' := Aside0.mk H
              clear H
              have p4 : 0 ≤ (x4_1 : Int) := of_decide_eq_true (by first | (with_reducible assumption) | assumption)
              have q4 : x4_1 < (a0.size : Int) := of_decide_eq_true (by first | (with_reducible assumption) | assumption)
              have hx4 := bt_at a0 x4_1
              replace p4 := eq_true p4
              replace q4 := eq_true q4
              have p6 : 0 ≤ (x4_1 : Int) := of_decide_eq_true (by first | (with_reducible assumption) | assumption)
              have q6 : x4_1 < (a0.size : Int) := of_decide_eq_true (by first | (with_reducible assumption) | assumption)
              have hx6 := bt_at a0 x4_1
              replace p6 := eq_true p6
              replace q6 := eq_true q6
              go_wp2
              go_roundg k1
              case measure => have := HK1.out; omega
              case rel => exact ⟨(x3_1), (wrap64 (x4_1 + 1)), (by first | rfl | (simp; done) | (simp [*]; done)), (by first | rfl | (simp; done) | (simp [*]; done)), H', ⟨by have := HK1.out; omega⟩, by repeat (first | exact Drawn0.refl _ | apply Drawn0.step)⟩
          · rw [if_neg c5] at H
            have c5b0 : decide (48 ≤ (bt a0 x4_1)) = false := decide_eq_false c5
            clear c5
            have H' := Aside0.mk H
            clear H
            have p4 : 0 ≤ (x4_1 : Int) := of_decide_eq_true (by first | (with_reducible assumption) | assumption)
            have q4 : x4_1 < (a0.size : Int) := of_decide_eq_true (by first | (with_reducible assumption) | assumption)
            have hx4 := bt_at a0 x4_1
            replace p4 := eq_true p4
            replace q4 := eq_true q4
            go_wp2
            go_roundg k1
            case measure => have := HK1.out; omega
            case rel => exact ⟨(x3_1), (wrap64 (x4_1 + 1)), (by first | rfl | (simp; done) | (simp [*]; done)), (by first | rfl | (simp; done) | (simp [*]; done)), H', ⟨by have := HK1.out; omega⟩, by repeat (first | exact Drawn0.refl _ | apply Drawn0.step)⟩
        · rw [if_neg c3] at H
          exact absurd H (by simp)
      · rw [if_neg c2] at H
        have c2b0 : decide (x4_1 < (a0.size : Int)) = false := decide_eq_false c2
        clear c2
        obtain rfl := Option.some.inj H
        go_wp2
        go_ret
        exact ⟨by first | rfl | (simp; done) | (simp [*]; done), by repeat (first | exact Drawn0.refl _ | apply Drawn0.step)⟩

end Go.Proofs.Ytncmmnbpkeemmaa.P
