import Derived.Test.YtiokjjadpobciaaDd
import Derived.Test.YtiokjjadpobciaaEq
import Derived.Deep.MidRow
namespace Go.Proofs.Ytiokjjadpobciaa.P
open Go.RowKit Go.Conc Go.Proofs.YtiokjjadpobciaaW.PrintWords Go.Proofs.YtiokjjadpobciaaW.PrintLast Go.Proofs.YtiokjjadpobciaaW.PrintMore
attribute [local go_sem] max2_int min2_int max_two min_two max_three min_three max_four min_four
set_option linter.unusedVariables false
set_option linter.unusedSimpArgs false
namespace Dd
set_option maxHeartbeats 8000000 in
set_option maxRecDepth 100000 in
theorem Same09_nil.calls (w : World) :
    Calls Try.prog 25 #[.slice none 0 0, .slice none 0 0] w fun e w' => e = .returned (.bool true) ∧ w' = w := by
  go_enter Try.func25, Try.ntmps25
  go_wp2
  go_loopw [5] (fun x5 wr => x5 = .int .i64 0 ∧ wr = w) (fun x5 _ => 0)
  case atStart => exact ⟨rfl, rfl⟩
  case round =>
    obtain ⟨rfl, rfl⟩ := hrel
    go_wp2
    go_ret
    exact ⟨rfl, rfl⟩
theorem storeB {P : Program} {op : Oper} {a : Act} {w : World} (ty : TypeId) (x y : Operand) (ho : op.op = .store ty x y)
    (b o : Nat) (cells : Array Value) (hx : a.eval x = .pointer (some ⟨b, o, none⟩)) (hy : a.eval y = .agg cells)
    (ht : w.there b o cells.size) (hi : (P.info? ty).map (·.size) = some cells.size) (h1 : cells.all (·.oneCell') = true) :
    (execOp a.eval op).run P w = .ok .skip (w.setCells b o cells.toList) := by
  unfold execOp
  simp only [ho, hx, hy, Instr.storeAt, Instr.sureAddr, Sem.run_bind, Sem.run_pure, Result.andThen_ok, run_storeVar_mid w b o ty cells ht hi h1]
theorem storeL {P : Program} {op : Oper} {a : Act} {w : World} (ty : TypeId) (x y : Operand) (ho : op.op = .store ty x y)
    (b : Nat) (cs : List Value) (hx : a.eval x = .pointer (some ⟨b, 0, none⟩)) (hy : a.eval y = .agg cs.toArray)
    (ht : w.there b 0 cs.length) (hi : (P.info? ty).map (·.size) = some cs.length) (h1 : ∀ v ∈ cs, v.oneCell' = true) :
    (execOp a.eval op).run P w = .ok .skip (w.setCells b 0 cs) := by
  have := storeB (P := P) (w := w) ty x y ho b 0 cs.toArray hx hy (by simpa using ht) (by simpa using hi) (all_oneCell_toArray h1)
  simpa using this
theorem info66s : (Try.prog.info? 66).map (·.size) = some 27 := by kernel_rfl
theorem there_blk {w : World} {g : Nat} {cs : Array Value} {t : TypeId} (h : w.heap[g]? = some (.cells cs t (0, 0))) (n : Nat) (hn : n ≤ cs.size) : w.there g 0 n := fun j hj => by
  refine ⟨?_, blk_frozen h _⟩
  have := blk_cell h (0 + j)
  rw [this, Array.getElem?_eq_getElem (by omega)]
  rfl
theorem below_setCells {B : Nat} {a : World} {b : Nat} (hb : B ≤ b) : ∀ (vs : List Value) (o : Nat) (w : World), Below B a w → Below B a (w.setCells b o vs)
  | [], _, _, h => h
  | v :: r, o, w, h => below_setCells hb r (o + 1) _ (h.setCell hb v)
/-- The row of steps, its cells at hand. -/
theorem R_range {w : World} {B : Nat} {ok : Nat → Prop} {v : Value} {xs : List (Int × Int)} (h : Kd.R stepK 66 w B ok v xs) (hx : 0 < xs.length) :
    ∃ g c, v = .slice (some ⟨g, 0, none⟩) xs.length c ∧ g < w.heap.size ∧ ∀ w', Below w.heap.size w w' → ∀ (i : Nat) (hi : i < xs.length), w'.rangeAt g (i * 27) (stepL xs[i]) := by
  obtain ⟨inner, ho⟩ := Kd.R_own h
  rcases ho.2 with ⟨rfl, h0⟩ | ⟨g, cap, cur, rfl, _, hg, _⟩
  · have e := (Kd.R_reads' h).1
    omega
  · refine ⟨g, cap, rfl, blk_lt hg, fun w' hb i hi j u hj => ?_⟩
    obtain ⟨ad, c, e, hc, hK, hcell⟩ := Kd.C_get (Kd.C_below (Kd.R_reads' h).2.2 hb) (0, 0) (i : Int) (by omega) (by omega)
    obtain rfl := Option.some.inj e
    have hK' : c = stepL (xs.getD (i : Int).toNat (0, 0)) := hK
    have e2 : xs.getD (i : Int).toNat (0, 0) = xs[i] := by simp [List.getD_eq_getElem?_getD, hi]
    rw [e2] at hK'
    have := hcell j u (by rw [hK']; exact hj)
    rw [add_plain, Int.toNat_natCast] at this
    exact this
def s32.T6 : Bool × List (List Nat × List Nat) := (true, [([], []), ([], []), ([0, 1], [0, 1]), ([2], [2]), ([], []), ([], []), ([4, 5], [4, 5]), ([6], [6]), ([], []), ([], []), ([8, 3, 0, 1, 2, 3, 8, 9], [3, 8]), ([9, 7, 10, 0, 1, 2, 3, 4, 5, 6, 7, 8, 9, 10], [7, 9])])
def s32.B6 : List Nat := [0, 0, 3, 7, 0, 0, 48, 112, 0, 0, 783, 2047]
theorem s32.tab6 : rtab .any (opsOf Try.f8 6) = s32.T6 := by kernel_rfl
theorem s32.bits6 : waitsOk s32.T6.2 s32.B6 = true := by kernel_rfl
set_option maxHeartbeats 8000000 in
set_option maxRecDepth 100000 in
theorem Same32.calls (B1 B2 : Nat) (ok1 ok2 : Nat → Prop) (v1 v2 : Value) (xs : List (Int × Int)) (w : World) (h1 : Kd.R stepK 66 w B1 ok1 v1 xs) (h2 : Kd.R stepK 66 w B2 ok2 v2 xs) (hx : 0 < xs.length) (hm : xs.length ≤ 10000) :
    Calls Try.prog 8 #[v1, v2] w fun e w' => e = .returned (.bool true) ∧ Below w.heap.size w w' := by
  obtain ⟨ga, ca, rfl, hga, HA0⟩ := R_range h1 hx
  obtain ⟨gb, cb, rfl, hgb, HB0⟩ := R_range h2 hx
  have HA := Aside0.mk HA0
  have HBb := Aside0.mk HB0
  clear HA0 HB0 h1 h2
  go_enter Try.func8, Try.ntmps8
  go_wp2
  go_loopw [5] (fun x5 wr => ∃ i : Nat, x5 = .int .i64 i ∧ i ≤ xs.length ∧ Aside0 (Below w.heap.size w wr)) (fun x5 _ => xs.length - (intOf x5).toNat)
  case atStart => exact ⟨0, rfl, by omega, ⟨Below.refl _ _⟩⟩
  case round =>
    obtain ⟨i, rfl, hi, HB⟩ := hrel
    by_cases d : i < xs.length
    · have dl : decide ((i : Int) < (xs.length : Int)) = true := decide_eq_true (by omega)
      have b1 : (0 : Int) ≤ (i : Int) := by omega
      have b2 : (i : Int) < (xs.length : Int) := by omega
      have hw : wrap64 ((i : Int) + 1) = ((i + 1 : Nat) : Int) := by unfold wrap64; omega
      have HSA := Aside0.mk (HA.out wr.drew (below_drew1 HB.out) i d)
      have HSB := Aside0.mk (HBb.out wr.drew (below_drew1 HB.out) i d)
      have HBA := Aside0.mk (below_drew1 HB.out)
      clear HB
      go_wp2_with fail
      refine start_ (n := 12) (S := fun w' => w'.rangeAt ga (i * 27) (stepL xs[i]) ∧ w'.rangeAt gb (i * 27) (stepL xs[i])) (ds := []) #[false, false, false, false, false, false, false, false, false, false, false, false] (by kernel_rfl) rfl rfl ⟨HSA.out, HSB.out⟩ (fun hHeld => ?_)
      refine with_tabW s32.tab6 s32.bits6 (fun HT_ HW_ => ?_)
      generalize wr.drew = W at HSA HSB HBA hHeld ⊢
      refine pure_ (i := 0) (N := some 20) (v := ?_) (a' := ?_) #[true, false, false, false, false, false, false, false, false, false, false, false] rfl rfl (any_of HT_.out (by kernel_rfl)) (fun _ _ _ h => h) (Or.inl ⟨by rfl, ?_⟩) ?_ ?_
      rotate_left
      · intro w'
        go_simp
        with_reducible rfl
      rotate_left
      · simp only [Act.put, List.setIfInBounds_toArray, List.set_cons_zero, List.set_cons_succ, i64_w, i32_w]
        rfl
      refine pure_ (i := 1) (N := some 21) (v := ?_) (a' := ?_) #[true, true, false, false, false, false, false, false, false, false, false, false] rfl rfl (any_of HT_.out (by kernel_rfl)) (fun _ _ _ h => h) (Or.inl ⟨by rfl, ?_⟩) ?_ ?_
      rotate_left
      · intro w'
        go_simp
        with_reducible rfl
      rotate_left
      · simp only [Act.put, List.setIfInBounds_toArray, List.set_cons_zero, List.set_cons_succ, i64_w, i32_w]
        rfl
      refine pure_ (i := 2) (N := some 22) (v := ?_) (a' := ?_) #[true, true, true, false, false, false, false, false, false, false, false, false] rfl rfl (any_of HT_.out (by kernel_rfl)) (fun _ _ _ h => h) (Or.inl ⟨by rfl, ?_⟩) ?_ ?_
      rotate_left
      · intro w'
        go_simp
        with_reducible rfl
      rotate_left
      · simp only [Act.put, List.setIfInBounds_toArray, List.set_cons_zero, List.set_cons_succ, i64_w, i32_w]
        rfl
      refine pure_ (i := 4) (N := some 24) (v := ?_) (a' := ?_) #[true, true, true, false, true, false, false, false, false, false, false, false] rfl rfl (any_of HT_.out (by kernel_rfl)) (fun _ _ _ h => h) (Or.inl ⟨by rfl, ?_⟩) ?_ ?_
      rotate_left
      · intro w'
        go_simp
        with_reducible rfl
      rotate_left
      · simp only [Act.put, List.setIfInBounds_toArray, List.set_cons_zero, List.set_cons_succ, i64_w, i32_w]
        rfl
      refine pure_ (i := 5) (N := some 25) (v := ?_) (a' := ?_) #[true, true, true, false, true, true, false, false, false, false, false, false] rfl rfl (any_of HT_.out (by kernel_rfl)) (fun _ _ _ h => h) (Or.inl ⟨by rfl, ?_⟩) ?_ ?_
      rotate_left
      · intro w'
        go_simp
        with_reducible rfl
      rotate_left
      · simp only [Act.put, List.setIfInBounds_toArray, List.set_cons_zero, List.set_cons_succ, i64_w, i32_w]
        rfl
      refine pure_ (i := 6) (N := some 26) (v := ?_) (a' := ?_) #[true, true, true, false, true, true, true, false, false, false, false, false] rfl rfl (any_of HT_.out (by kernel_rfl)) (fun _ _ _ h => h) (Or.inl ⟨by rfl, ?_⟩) ?_ ?_
      rotate_left
      · intro w'
        go_simp
        with_reducible rfl
      rotate_left
      · simp only [Act.put, List.setIfInBounds_toArray, List.set_cons_zero, List.set_cons_succ, i64_w, i32_w]
        rfl
      refine take_ (i := 3) (N := some 23) (v := .agg (stepL xs[i]).toArray) (a' := ?_) #[true, true, true, true, true, true, true, false, false, false, false, false] rfl rfl (take_ofW HT_.out HW_.out (by kernel_rfl)) (fun _ _ _ h => h) (yieldsIf_load_mid (by rfl) 66 (.tmp 22) rfl ga (i * 27) ?_ (stepL xs[i]) _ (fun w h => h.1) Try.underlying66 rfl (by kernel_rfl)) hHeld ?_ ?_
      · simp [Act.eval, add_plain]
      rotate_left
      · simp only [Act.put, List.setIfInBounds_toArray, List.set_cons_zero, List.set_cons_succ, i64_w, i32_w]
        rfl
      refine take_ (i := 7) (N := some 27) (v := .agg (stepL xs[i]).toArray) (a' := ?_) #[true, true, true, true, true, true, true, true, false, false, false, false] rfl rfl (take_ofW HT_.out HW_.out (by kernel_rfl)) (fun _ _ _ h => h) (yieldsIf_load_mid (by rfl) 66 (.tmp 26) rfl gb (i * 27) ?_ (stepL xs[i]) _ (fun w h => h.2) Try.underlying66 rfl (by kernel_rfl)) hHeld ?_ ?_
      · simp [Act.eval, add_plain]
      rotate_left
      · simp only [Act.put, List.setIfInBounds_toArray, List.set_cons_zero, List.set_cons_succ, i64_w, i32_w]
        rfl
      refine join_ (σ := Nat × Nat) 2 #[true, true, true, true, true, true, true, true, true, true, false, false] (fun s => [(6, .pointer (some ⟨s.1, 0, none⟩)), (7, .pointer (some ⟨s.2, 0, none⟩))]) (fun s w' => (s = (W.heap.size, W.heap.size + 1) ∨ s = (W.heap.size + 1, W.heap.size)) ∧ w' = (W.alloc (.cells #[.int .i64 0, .int .i64 0, .slice none 0 0, .int .i64 0, .int .i64 0, .bool false, .bool false, .bool false, .bool false, .bool false, .bool false, .bool false, .bool false, .string { data := #[] }, .string { data := #[] }, .string { data := #[] }, .string { data := #[] }, .int .i64 0, .int .i64 0, .int .i64 0, .int .i64 0, .int .i64 0, .int .i64 0, .int .i64 0, .int .i64 0, .int .i64 0, .slice none 0 0] 66 (0, 0))).alloc (.cells #[.int .i64 0, .int .i64 0, .slice none 0 0, .int .i64 0, .int .i64 0, .bool false, .bool false, .bool false, .bool false, .bool false, .bool false, .bool false, .bool false, .string { data := #[] }, .string { data := #[] }, .string { data := #[] }, .string { data := #[] }, .int .i64 0, .int .i64 0, .int .i64 0, .int .i64 0, .int .i64 0, .int .i64 0, .int .i64 0, .int .i64 0, .int .i64 0, .slice none 0 0] 66 (0, 0))) ?_ ?_
      rotate_left
      · intro hCont
        refine two_ (i := 8) (j := 9) (Ni := some 6) (Nj := some 7) #[true, true, true, true, true, true, true, true, true, false, false, false] #[true, true, true, true, true, true, true, true, false, true, false, false] rfl rfl rfl rfl (by kernel_rfl) (by decide) (by decide) (fun K hK => ?_) (fun K hK => ?_)
        · skip
          refine value_ (w1 := ?_) (v := ?_) (by rfl) rfl ?_ ?_
          rotate_left 2
          · go_simp
            constructor
            · rfl
            · rfl
          refine hK.out _ _ ⟨(World.rangeAt_alloc HSA.out _), (World.rangeAt_alloc HSB.out _)⟩ (fun hHeld => ?_)
          clear hK K
          refine norm_ (a' := ?_) ?_ ?_
          rotate_left
          · show Act.put _ (some 6) _ = _
            simp only [Act.put, List.setIfInBounds_toArray, List.set_cons_zero, List.set_cons_succ, i64_w, i32_w]
            rfl
          refine one_ (i := 9) (N := some 7) #[true, true, true, true, true, true, true, true, true, true, false, false] rfl rfl (one_of HT_.out (by kernel_rfl)) (by decide) (fun K hK => ?_)
          refine value_ (w1 := ?_) (v := ?_) (by rfl) rfl ?_ ?_
          rotate_left 2
          · go_simp
            constructor
            · rfl
            · rfl
          refine hK.out _ _ ⟨(World.rangeAt_alloc (World.rangeAt_alloc HSA.out _) _), (World.rangeAt_alloc (World.rangeAt_alloc HSB.out _) _)⟩ (fun hHeld => ?_)
          clear hK K
          refine norm_ (a' := ?_) ?_ ?_
          rotate_left
          · show Act.put _ (some 7) _ = _
            simp only [Act.put, List.setIfInBounds_toArray, List.set_cons_zero, List.set_cons_succ, i64_w, i32_w]
            rfl
          exact norm_ (by simp only [putAll, Act.put, List.setIfInBounds_toArray, List.set_cons_zero, List.set_cons_succ]) (hCont (W.heap.size, W.heap.size + 1) _ ⟨.inl rfl, rfl⟩)
        · skip
          refine value_ (w1 := ?_) (v := ?_) (by rfl) rfl ?_ ?_
          rotate_left 2
          · go_simp
            constructor
            · rfl
            · rfl
          refine hK.out _ _ ⟨(World.rangeAt_alloc HSA.out _), (World.rangeAt_alloc HSB.out _)⟩ (fun hHeld => ?_)
          clear hK K
          refine norm_ (a' := ?_) ?_ ?_
          rotate_left
          · show Act.put _ (some 7) _ = _
            simp only [Act.put, List.setIfInBounds_toArray, List.set_cons_zero, List.set_cons_succ, i64_w, i32_w]
            rfl
          refine one_ (i := 8) (N := some 6) #[true, true, true, true, true, true, true, true, true, true, false, false] rfl rfl (one_of HT_.out (by kernel_rfl)) (by decide) (fun K hK => ?_)
          refine value_ (w1 := ?_) (v := ?_) (by rfl) rfl ?_ ?_
          rotate_left 2
          · go_simp
            constructor
            · rfl
            · rfl
          refine hK.out _ _ ⟨(World.rangeAt_alloc (World.rangeAt_alloc HSA.out _) _), (World.rangeAt_alloc (World.rangeAt_alloc HSB.out _) _)⟩ (fun hHeld => ?_)
          clear hK K
          refine norm_ (a' := ?_) ?_ ?_
          rotate_left
          · show Act.put _ (some 6) _ = _
            simp only [Act.put, List.setIfInBounds_toArray, List.set_cons_zero, List.set_cons_succ, i64_w, i32_w]
            rfl
          exact norm_ (by simp only [putAll, Act.put, List.setIfInBounds_toArray, List.set_cons_zero, List.set_cons_succ]) (hCont (W.heap.size + 1, W.heap.size) _ ⟨.inr rfl, rfl⟩)
      rintro ⟨p, q⟩ w2 ⟨hpq, rfl⟩
      have hHeld : (fun w' : World => w'.rangeAt ga (i * 27) (stepL xs[i]) ∧ w'.rangeAt gb (i * 27) (stepL xs[i])) ((W.alloc (.cells #[.int .i64 0, .int .i64 0, .slice none 0 0, .int .i64 0, .int .i64 0, .bool false, .bool false, .bool false, .bool false, .bool false, .bool false, .bool false, .bool false, .string { data := #[] }, .string { data := #[] }, .string { data := #[] }, .string { data := #[] }, .int .i64 0, .int .i64 0, .int .i64 0, .int .i64 0, .int .i64 0, .int .i64 0, .int .i64 0, .int .i64 0, .int .i64 0, .slice none 0 0] 66 (0, 0))).alloc (.cells #[.int .i64 0, .int .i64 0, .slice none 0 0, .int .i64 0, .int .i64 0, .bool false, .bool false, .bool false, .bool false, .bool false, .bool false, .bool false, .bool false, .string { data := #[] }, .string { data := #[] }, .string { data := #[] }, .string { data := #[] }, .int .i64 0, .int .i64 0, .int .i64 0, .int .i64 0, .int .i64 0, .int .i64 0, .int .i64 0, .int .i64 0, .int .i64 0, .slice none 0 0] 66 (0, 0))) := ⟨World.rangeAt_alloc (World.rangeAt_alloc HSA.out _) _, World.rangeAt_alloc (World.rangeAt_alloc HSB.out _) _⟩
      refine norm_ (a' := ?_) ?_ ?_
      rotate_left
      · simp only [putAll, Act.put, List.setIfInBounds_toArray, List.set_cons_zero, List.set_cons_succ]
        rfl
      refine one_ (i := 10) (N := none) #[true, true, true, true, true, true, true, true, true, true, true, false] rfl rfl (one_of HT_.out (by kernel_rfl)) (by decide) (fun K hK => ?_)
      have hpq' : (p = W.heap.size ∧ q = W.heap.size + 1) ∨ (p = W.heap.size + 1 ∧ q = W.heap.size) := by simpa using hpq
      have hWs : w.heap.size ≤ W.heap.size := HBA.out.size
      have hP0 : ((W.alloc (.cells #[.int .i64 0, .int .i64 0, .slice none 0 0, .int .i64 0, .int .i64 0, .bool false, .bool false, .bool false, .bool false, .bool false, .bool false, .bool false, .bool false, .string { data := #[] }, .string { data := #[] }, .string { data := #[] }, .string { data := #[] }, .int .i64 0, .int .i64 0, .int .i64 0, .int .i64 0, .int .i64 0, .int .i64 0, .int .i64 0, .int .i64 0, .int .i64 0, .slice none 0 0] 66 (0, 0))).alloc (.cells #[.int .i64 0, .int .i64 0, .slice none 0 0, .int .i64 0, .int .i64 0, .bool false, .bool false, .bool false, .bool false, .bool false, .bool false, .bool false, .bool false, .string { data := #[] }, .string { data := #[] }, .string { data := #[] }, .string { data := #[] }, .int .i64 0, .int .i64 0, .int .i64 0, .int .i64 0, .int .i64 0, .int .i64 0, .int .i64 0, .int .i64 0, .int .i64 0, .slice none 0 0] 66 (0, 0))).heap[p]? = some (.cells #[.int .i64 0, .int .i64 0, .slice none 0 0, .int .i64 0, .int .i64 0, .bool false, .bool false, .bool false, .bool false, .bool false, .bool false, .bool false, .bool false, .string { data := #[] }, .string { data := #[] }, .string { data := #[] }, .string { data := #[] }, .int .i64 0, .int .i64 0, .int .i64 0, .int .i64 0, .int .i64 0, .int .i64 0, .int .i64 0, .int .i64 0, .int .i64 0, .slice none 0 0] 66 (0, 0)) := by rcases hpq' with ⟨e, _⟩ | ⟨e, _⟩ <;> rw [e]; exact blk_alloc (blk_new W _) _; exact (by simpa using blk_new (W.alloc (.cells #[.int .i64 0, .int .i64 0, .slice none 0 0, .int .i64 0, .int .i64 0, .bool false, .bool false, .bool false, .bool false, .bool false, .bool false, .bool false, .bool false, .string { data := #[] }, .string { data := #[] }, .string { data := #[] }, .string { data := #[] }, .int .i64 0, .int .i64 0, .int .i64 0, .int .i64 0, .int .i64 0, .int .i64 0, .int .i64 0, .int .i64 0, .int .i64 0, .slice none 0 0] 66 (0, 0))) (.cells #[.int .i64 0, .int .i64 0, .slice none 0 0, .int .i64 0, .int .i64 0, .bool false, .bool false, .bool false, .bool false, .bool false, .bool false, .bool false, .bool false, .string { data := #[] }, .string { data := #[] }, .string { data := #[] }, .string { data := #[] }, .int .i64 0, .int .i64 0, .int .i64 0, .int .i64 0, .int .i64 0, .int .i64 0, .int .i64 0, .int .i64 0, .int .i64 0, .slice none 0 0] 66 (0, 0)))
      have hQ0 : ((W.alloc (.cells #[.int .i64 0, .int .i64 0, .slice none 0 0, .int .i64 0, .int .i64 0, .bool false, .bool false, .bool false, .bool false, .bool false, .bool false, .bool false, .bool false, .string { data := #[] }, .string { data := #[] }, .string { data := #[] }, .string { data := #[] }, .int .i64 0, .int .i64 0, .int .i64 0, .int .i64 0, .int .i64 0, .int .i64 0, .int .i64 0, .int .i64 0, .int .i64 0, .slice none 0 0] 66 (0, 0))).alloc (.cells #[.int .i64 0, .int .i64 0, .slice none 0 0, .int .i64 0, .int .i64 0, .bool false, .bool false, .bool false, .bool false, .bool false, .bool false, .bool false, .bool false, .string { data := #[] }, .string { data := #[] }, .string { data := #[] }, .string { data := #[] }, .int .i64 0, .int .i64 0, .int .i64 0, .int .i64 0, .int .i64 0, .int .i64 0, .int .i64 0, .int .i64 0, .int .i64 0, .slice none 0 0] 66 (0, 0))).heap[q]? = some (.cells #[.int .i64 0, .int .i64 0, .slice none 0 0, .int .i64 0, .int .i64 0, .bool false, .bool false, .bool false, .bool false, .bool false, .bool false, .bool false, .bool false, .string { data := #[] }, .string { data := #[] }, .string { data := #[] }, .string { data := #[] }, .int .i64 0, .int .i64 0, .int .i64 0, .int .i64 0, .int .i64 0, .int .i64 0, .int .i64 0, .int .i64 0, .int .i64 0, .slice none 0 0] 66 (0, 0)) := by rcases hpq' with ⟨_, e⟩ | ⟨_, e⟩ <;> rw [e]; exact (by simpa using blk_new (W.alloc (.cells #[.int .i64 0, .int .i64 0, .slice none 0 0, .int .i64 0, .int .i64 0, .bool false, .bool false, .bool false, .bool false, .bool false, .bool false, .bool false, .bool false, .string { data := #[] }, .string { data := #[] }, .string { data := #[] }, .string { data := #[] }, .int .i64 0, .int .i64 0, .int .i64 0, .int .i64 0, .int .i64 0, .int .i64 0, .int .i64 0, .int .i64 0, .int .i64 0, .slice none 0 0] 66 (0, 0))) (.cells #[.int .i64 0, .int .i64 0, .slice none 0 0, .int .i64 0, .int .i64 0, .bool false, .bool false, .bool false, .bool false, .bool false, .bool false, .bool false, .bool false, .string { data := #[] }, .string { data := #[] }, .string { data := #[] }, .string { data := #[] }, .int .i64 0, .int .i64 0, .int .i64 0, .int .i64 0, .int .i64 0, .int .i64 0, .int .i64 0, .int .i64 0, .int .i64 0, .slice none 0 0] 66 (0, 0))); exact blk_alloc (blk_new W _) _
      have fap : ga ≠ p := by omega
      have fbp : gb ≠ p := by omega
      have faq : ga ≠ q := by omega
      have fbq : gb ≠ q := by omega
      have fpq : p ≠ q := by omega
      have hTP := there_blk hP0 27 (by simp)
      have hTQ := there_blk hQ0 27 (by simp)
      clear hpq hP0 hQ0
      obtain ⟨w3, hw3⟩ : ∃ w3, w3 = ((W.alloc (.cells #[.int .i64 0, .int .i64 0, .slice none 0 0, .int .i64 0, .int .i64 0, .bool false, .bool false, .bool false, .bool false, .bool false, .bool false, .bool false, .bool false, .string { data := #[] }, .string { data := #[] }, .string { data := #[] }, .string { data := #[] }, .int .i64 0, .int .i64 0, .int .i64 0, .int .i64 0, .int .i64 0, .int .i64 0, .int .i64 0, .int .i64 0, .int .i64 0, .slice none 0 0] 66 (0, 0))).alloc (.cells #[.int .i64 0, .int .i64 0, .slice none 0 0, .int .i64 0, .int .i64 0, .bool false, .bool false, .bool false, .bool false, .bool false, .bool false, .bool false, .bool false, .string { data := #[] }, .string { data := #[] }, .string { data := #[] }, .string { data := #[] }, .int .i64 0, .int .i64 0, .int .i64 0, .int .i64 0, .int .i64 0, .int .i64 0, .int .i64 0, .int .i64 0, .int .i64 0, .slice none 0 0] 66 (0, 0))).setCells p 0 (stepL xs[i]) := ⟨_, rfl⟩
      have f1 : w3.rangeAt ga (i * 27) (stepL xs[i]) := by rw [hw3]; exact World.rangeAt_setCells_apart hHeld.1 p 0 (stepL xs[i]) (.inl fap)
      have f2 : w3.rangeAt gb (i * 27) (stepL xs[i]) := by rw [hw3]; exact World.rangeAt_setCells_apart hHeld.2 p 0 (stepL xs[i]) (.inl fbp)
      have hTQ2 : w3.there q 0 27 := by rw [hw3]; exact World.there_setCells hTQ p 0 (stepL xs[i])
      have HP3 : w3.rangeAt p 0 (stepL xs[i]) := by rw [hw3]; exact World.rangeAt_setCells_same _ _ _ _ hTP
      have HB3 : Below w.heap.size w w3 := by rw [hw3]; exact below_setCells (by omega) _ _ _ ((HBA.out.alloc HBA.out.size _).alloc (by simp; omega) _)
      refine skip_ (w1 := w3) (by rfl) rfl (by rw [hw3]; exact storeL 66 (.tmp 6) (.tmp 23) rfl p (stepL xs[i]) rfl rfl hTP info66s (stepL_one _)) ?_
      have HP3 := Aside0.mk HP3
      have HB3 := Aside0.mk HB3
      clear hw3 hTP hTQ
      refine hK.out _ _ ⟨f1, f2⟩ (fun hHeld => ?_)
      clear hK K
      refine one_ (i := 11) (N := none) #[true, true, true, true, true, true, true, true, true, true, true, true] rfl rfl (one_of HT_.out (by kernel_rfl)) (by decide) (fun K hK => ?_)
      obtain ⟨w4, hw4⟩ : ∃ w4, w4 = w3.setCells q 0 (stepL xs[i]) := ⟨_, rfl⟩
      have f3 : w4.rangeAt ga (i * 27) (stepL xs[i]) := by rw [hw4]; exact World.rangeAt_setCells_apart f1 q 0 (stepL xs[i]) (.inl faq)
      have f4 : w4.rangeAt gb (i * 27) (stepL xs[i]) := by rw [hw4]; exact World.rangeAt_setCells_apart f2 q 0 (stepL xs[i]) (.inl fbq)
      have HP4 : w4.rangeAt p 0 (stepL xs[i]) := by rw [hw4]; exact World.rangeAt_setCells_apart HP3.out q 0 (stepL xs[i]) (.inl fpq)
      have HQ4 : w4.rangeAt q 0 (stepL xs[i]) := by rw [hw4]; exact World.rangeAt_setCells_same _ _ _ _ hTQ2
      have HB4 : Below w.heap.size w w4 := by rw [hw4]; exact below_setCells (by omega) _ _ _ HB3.out
      refine skip_ (w1 := w4) (by rfl) rfl (by rw [hw4]; exact storeL 66 (.tmp 7) (.tmp 27) rfl q (stepL xs[i]) rfl rfl hTQ2 info66s (stepL_one _)) ?_
      have HP4 := Aside0.mk HP4
      have HQ4 := Aside0.mk HQ4
      have HB4 := Aside0.mk HB4
      clear hw4 hTQ2 HP3 HB3 f1 f2
      refine hK.out _ _ ⟨f3, f4⟩ (fun hHeld => ?_)
      clear hK K
      refine done_ (done_of HT_.out (by kernel_rfl)) ?_

      clear f3 f4 fap fbp faq fbq fpq hpq' hHeld HSA HSB HBA
      generalize xs[i] = x at HP4 HQ4 ⊢
      obtain ⟨k, n⟩ := x
      have h58 := eq58f
      have h59 := eq59f
      have hkk : (k != k) = false := by simp
      have hnn : (n != n) = false := by simp
      have hp0 : w4.cell? ⟨p, 0, none⟩ = some (.int .i64 k) := HP4.out 0 _ rfl
      have hq0 : w4.cell? ⟨q, 0, none⟩ = some (.int .i64 k) := HQ4.out 0 _ rfl
      have hp1 : w4.cell? ⟨p, 1, none⟩ = some (.int .i64 n) := HP4.out 1 _ rfl
      have hq1 : w4.cell? ⟨q, 1, none⟩ = some (.int .i64 n) := HQ4.out 1 _ rfl
      have hp2 : w4.cell? ⟨p, 2, none⟩ = some (.slice none 0 0) := HP4.out 2 _ rfl
      have hq2 : w4.cell? ⟨q, 2, none⟩ = some (.slice none 0 0) := HQ4.out 2 _ rfl
      have hp3 : w4.cell? ⟨p, 3, none⟩ = some (.int .i64 0) := HP4.out 3 _ rfl
      have hq3 : w4.cell? ⟨q, 3, none⟩ = some (.int .i64 0) := HQ4.out 3 _ rfl
      have hp4 : w4.cell? ⟨p, 4, none⟩ = some (.int .i64 0) := HP4.out 4 _ rfl
      have hq4 : w4.cell? ⟨q, 4, none⟩ = some (.int .i64 0) := HQ4.out 4 _ rfl
      have hp5 : w4.cell? ⟨p, 5, none⟩ = some (.bool false) := HP4.out 5 _ rfl
      have hq5 : w4.cell? ⟨q, 5, none⟩ = some (.bool false) := HQ4.out 5 _ rfl
      have hp6 : w4.cell? ⟨p, 6, none⟩ = some (.bool false) := HP4.out 6 _ rfl
      have hq6 : w4.cell? ⟨q, 6, none⟩ = some (.bool false) := HQ4.out 6 _ rfl
      have hp7 : w4.cell? ⟨p, 7, none⟩ = some (.bool false) := HP4.out 7 _ rfl
      have hq7 : w4.cell? ⟨q, 7, none⟩ = some (.bool false) := HQ4.out 7 _ rfl
      have hp8 : w4.cell? ⟨p, 8, none⟩ = some (.bool false) := HP4.out 8 _ rfl
      have hq8 : w4.cell? ⟨q, 8, none⟩ = some (.bool false) := HQ4.out 8 _ rfl
      have hp9 : w4.cell? ⟨p, 9, none⟩ = some (.bool false) := HP4.out 9 _ rfl
      have hq9 : w4.cell? ⟨q, 9, none⟩ = some (.bool false) := HQ4.out 9 _ rfl
      have hp10 : w4.cell? ⟨p, 10, none⟩ = some (.bool false) := HP4.out 10 _ rfl
      have hq10 : w4.cell? ⟨q, 10, none⟩ = some (.bool false) := HQ4.out 10 _ rfl
      have hp11 : w4.cell? ⟨p, 11, none⟩ = some (.bool false) := HP4.out 11 _ rfl
      have hq11 : w4.cell? ⟨q, 11, none⟩ = some (.bool false) := HQ4.out 11 _ rfl
      have hp12 : w4.cell? ⟨p, 12, none⟩ = some (.bool false) := HP4.out 12 _ rfl
      have hq12 : w4.cell? ⟨q, 12, none⟩ = some (.bool false) := HQ4.out 12 _ rfl
      have hp13 : w4.cell? ⟨p, 13, none⟩ = some (.string { data := #[] }) := HP4.out 13 _ rfl
      have hq13 : w4.cell? ⟨q, 13, none⟩ = some (.string { data := #[] }) := HQ4.out 13 _ rfl
      have hp14 : w4.cell? ⟨p, 14, none⟩ = some (.string { data := #[] }) := HP4.out 14 _ rfl
      have hq14 : w4.cell? ⟨q, 14, none⟩ = some (.string { data := #[] }) := HQ4.out 14 _ rfl
      have hp15 : w4.cell? ⟨p, 15, none⟩ = some (.string { data := #[] }) := HP4.out 15 _ rfl
      have hq15 : w4.cell? ⟨q, 15, none⟩ = some (.string { data := #[] }) := HQ4.out 15 _ rfl
      have hp16 : w4.cell? ⟨p, 16, none⟩ = some (.string { data := #[] }) := HP4.out 16 _ rfl
      have hq16 : w4.cell? ⟨q, 16, none⟩ = some (.string { data := #[] }) := HQ4.out 16 _ rfl
      have hp17 : w4.cell? ⟨p, 17, none⟩ = some (.int .i64 0) := HP4.out 17 _ rfl
      have hq17 : w4.cell? ⟨q, 17, none⟩ = some (.int .i64 0) := HQ4.out 17 _ rfl
      have hp18 : w4.cell? ⟨p, 18, none⟩ = some (.int .i64 0) := HP4.out 18 _ rfl
      have hq18 : w4.cell? ⟨q, 18, none⟩ = some (.int .i64 0) := HQ4.out 18 _ rfl
      have hp19 : w4.cell? ⟨p, 19, none⟩ = some (.int .i64 0) := HP4.out 19 _ rfl
      have hq19 : w4.cell? ⟨q, 19, none⟩ = some (.int .i64 0) := HQ4.out 19 _ rfl
      have hp20 : w4.cell? ⟨p, 20, none⟩ = some (.int .i64 0) := HP4.out 20 _ rfl
      have hq20 : w4.cell? ⟨q, 20, none⟩ = some (.int .i64 0) := HQ4.out 20 _ rfl
      have hp21 : w4.cell? ⟨p, 21, none⟩ = some (.int .i64 0) := HP4.out 21 _ rfl
      have hq21 : w4.cell? ⟨q, 21, none⟩ = some (.int .i64 0) := HQ4.out 21 _ rfl
      have hp22 : w4.cell? ⟨p, 22, none⟩ = some (.int .i64 0) := HP4.out 22 _ rfl
      have hq22 : w4.cell? ⟨q, 22, none⟩ = some (.int .i64 0) := HQ4.out 22 _ rfl
      have hp23 : w4.cell? ⟨p, 23, none⟩ = some (.int .i64 0) := HP4.out 23 _ rfl
      have hq23 : w4.cell? ⟨q, 23, none⟩ = some (.int .i64 0) := HQ4.out 23 _ rfl
      have hp24 : w4.cell? ⟨p, 24, none⟩ = some (.int .i64 0) := HP4.out 24 _ rfl
      have hq24 : w4.cell? ⟨q, 24, none⟩ = some (.int .i64 0) := HQ4.out 24 _ rfl
      have hp25 : w4.cell? ⟨p, 25, none⟩ = some (.int .i64 0) := HP4.out 25 _ rfl
      have hq25 : w4.cell? ⟨q, 25, none⟩ = some (.int .i64 0) := HQ4.out 25 _ rfl
      have hp26 : w4.cell? ⟨p, 26, none⟩ = some (.slice none 0 0) := HP4.out 26 _ rfl
      have hq26 : w4.cell? ⟨q, 26, none⟩ = some (.slice none 0 0) := HQ4.out 26 _ rfl
      go_wp2_with (go_at_call 25; (with_reducible refine (Same09_nil.calls _).mono ?_); rintro e w5 ⟨rfl, rfl⟩)
      clear hp0 hq0 hp1 hq1 hp2 hq2 hp3 hq3 hp4 hq4 hp5 hq5 hp6 hq6 hp7 hq7 hp8 hq8 hp9 hq9 hp10 hq10 hp11 hq11 hp12 hq12 hp13 hq13 hp14 hq14 hp15 hq15 hp16 hq16 hp17 hq17 hp18 hq18 hp19 hq19 hp20 hq20 hp21 hq21 hp22 hq22 hp23 hq23 hp24 hq24 hp25 hq25 hq26 HP4 HQ4
      have HP26 := Aside0.mk hp26
      clear hp26
      go_loopw [8] (fun x8 wr => x8 = .int .i64 0 ∧ Aside0 (Below w.heap.size w wr) ∧ Aside0 (wr.cell? ⟨p, 26, none⟩ = some (.slice none 0 0))) (fun x8 _ => 0)
      case atStart => exact ⟨rfl, HB4, HP26⟩
      case round =>
        clear HB4 HP26
        obtain ⟨rfl, HB5, HP5⟩ := hrel
        have hp26 := HP5.out
        go_wp2
        clear hp26 HP5
        go_roundw
        case rel => exact ⟨i + 1, rfl, by omega, HB5⟩
        case measure => simp only [intOf]; omega
    · have dl : decide ((i : Int) < (xs.length : Int)) = false := decide_eq_false (by omega)
      go_wp2
      go_ret
      exact ⟨rfl, HB.out⟩

end Dd
end Go.Proofs.Ytiokjjadpobciaa.P
