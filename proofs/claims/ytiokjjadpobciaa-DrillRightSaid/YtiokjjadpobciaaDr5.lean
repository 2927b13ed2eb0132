import Derived.Test.YtiokjjadpobciaaDr4
namespace Go.Proofs.Ytiokjjadpobciaa.P
open Go.RowKit Go.Conc Go.Proofs.YtiokjjadpobciaaW.PrintWords Go.Proofs.YtiokjjadpobciaaW.PrintLast Go.Proofs.YtiokjjadpobciaaW.PrintMore
attribute [local go_sem] max2_int min2_int max_two min_two max_three min_three max_four min_four
set_option linter.unusedVariables false
set_option linter.unusedSimpArgs false
namespace Dr
open Ln
/-- Since w: dice at g turned, else only new blocks. -/
structure IG (B g : Nat) (x : Int) (w0 w W : World) : Prop where
  dice : DB g x W
  f : Far w W (fun k => k = g)
  b : Below B w0 W
theorem IG.below {B g : Nat} {x : Int} {w0 w W W' : World} (h : IG B g x w0 w W) (hB : B ≤ g) (hb : Below W.heap.size W W') : IG B g x w0 w W' :=
  ⟨h.dice.below hb, h.f.trans (Far.below hb (fun _ => False)) (fun _ _ e => e.elim), h.b.trans (hb.mono (by have := blk_lt h.dice.blk; omega))⟩
theorem IG.trans {B g : Nat} {x y : Int} {w0 w wr W : World} (h : IG B g x w0 w wr) (k : IG B g y w0 wr W) : IG B g y w0 w W :=
  ⟨k.dice, h.f.trans k.f (fun _ _ e => e), k.b⟩
theorem IG.ds {B g d : Nat} {x y kind hour : Int} {v : Value} {xs : List Sx} {w0 w W : World} (h : DS B g d x kind hour v xs w0 w) (hg : g ≠ d) (k : IG B g y w0 w W) : DS B g d y kind hour v xs w0 W := h.far hg k.dice k.b k.f
/-- The fact at p beside. -/
structure RD (B g p : Nat) (x : Int) (cs : Array Value) (w0 wr W : World) : Prop where
  ig : IG B g x w0 wr W
  bf : W.heap[p]? = some (.cells cs 88 (0, 0))
theorem RD.below {B g p : Nat} {x : Int} {cs : Array Value} {w0 wr W W' : World} (h : RD B g p x cs w0 wr W) (hB : B ≤ g) (hb : Below W.heap.size W W') : RD B g p x cs w0 wr W' := ⟨h.ig.below hB hb, blk_below h.bf hb⟩
theorem RD.put {B g p : Nat} {x : Int} {cs cs' : Array Value} {w0 wr W : World} (h : RD B g p x cs w0 wr W) (hg : g ≠ p) (hB : B ≤ p) (hp : wr.heap.size ≤ p) (i : Nat) (u : Value) (e : cs.setIfInBounds i u = cs') : RD B g p x cs' w0 wr (W.setCell ⟨p, i, none⟩ u) :=
  ⟨⟨⟨blk_far h.ig.dice.blk (p := ⟨p, i, none⟩) (by simpa using hg) u⟩, Far.setCell h.ig.f (p := ⟨p, i, none⟩) (.inl hp) u, h.ig.b.setCell (p := ⟨p, i, none⟩) hB u⟩, blk_put h.bf i u e⟩
theorem RD.put6 {B g p : Nat} {x : Int} {a0 a1 a2 a3 a4 a5 : Value} (b0 b1 b2 b3 b4 b5 : Value) {w0 wr W : World} (h : RD B g p x #[a0, a1, a2, a3, a4, a5] w0 wr W) (hg : g ≠ p) (hB : B ≤ p) (hp : wr.heap.size ≤ p) :
    RD B g p x #[b0, b1, b2, b3, b4, b5] w0 wr ((((((W.setCell ⟨p, 0, none⟩ b0).setCell ⟨p, 1, none⟩ b1).setCell ⟨p, 2, none⟩ b2).setCell ⟨p, 3, none⟩ b3).setCell ⟨p, 4, none⟩ b4).setCell ⟨p, 5, none⟩ b5) := by
  have s1 := h.put hg hB hp 0 b0 (cs' := #[b0, a1, a2, a3, a4, a5]) rfl
  have s2 := s1.put hg hB hp 1 b1 (cs' := #[b0, b1, a2, a3, a4, a5]) rfl
  have s3 := s2.put hg hB hp 2 b2 (cs' := #[b0, b1, b2, a3, a4, a5]) rfl
  have s4 := s3.put hg hB hp 3 b3 (cs' := #[b0, b1, b2, b3, a4, a5]) rfl
  have s5 := s4.put hg hB hp 4 b4 (cs' := #[b0, b1, b2, b3, b4, a5]) rfl
  exact s5.put hg hB hp 5 b5 (cs' := #[b0, b1, b2, b3, b4, b5]) rfl
theorem IG.fact {B g : Nat} {x : Int} {w0 w W : World} (h : IG B g x w0 w W) (hB : B ≤ g) (hour : Int) (h0 : 0 ≤ hour) (h1 : hour ≤ 16777216) :
    Calls Try.prog 46 #[.pointer (some ⟨g, 0, none⟩), .int .i64 hour] W fun e w' => e = .returned (.agg (factV x hour).cells) ∧ IG B g (nxt4 x) w0 w w' ∧ Far W w' (fun k => k = g) :=
  (Fact.calls B g x hour w0 W h0 h1 h.b hB h.dice).mono fun e w' k => ⟨k.1, ⟨k.2.1, h.f.trans k.2.2.2 (fun _ _ e => e), k.2.2.1⟩, k.2.2.2⟩
theorem RD.next {B g p : Nat} {x : Int} {cs : Array Value} {w0 wr W : World} (h : RD B g p x cs w0 wr W) (hB : B ≤ g) (hg : g ≠ p) (n : Int) (hn : 1 ≤ n) (hn2 : n < 9223372036854775808) :
    Calls Try.prog 33 #[.pointer (some ⟨g, 0, none⟩), .int .i64 n] W fun e w' => e = .returned (.int .i64 (thr x n)) ∧ RD B g p (nxt x) cs w0 wr w' :=
  (Next.calls B g x n w0 W hn hn2 h.ig.b hB h.ig.dice).mono fun e w' k => ⟨k.1, ⟨⟨k.2.1, h.ig.f.trans k.2.2.2 (fun _ _ e => e), k.2.2.1⟩, k.2.2.2.blk h.bf (fun e => hg e.symm)⟩⟩
theorem Far.grown {w a b : World} {S : Nat → Prop} {row : Option Nat} (h : Far w a S) (hg : a.grownBy b row) (hr : ∀ k, row = some k → w.heap.size ≤ k ∨ S k) : Far w b S :=
  ⟨hg.os.trans h.os, hg.tape.trans h.tape, hg.output.trans h.output, Nat.le_trans h.size hg.size, fun k hk hs => (hg.block k (Nat.lt_of_lt_of_le hk h.size) (fun e => by
    rcases hr k e.symm with x | x
    · omega
    · exact hs x)).trans (h.block k hk hs)⟩
/-- The facts of an ingest. -/
def lateV (kind h t : Int) : Int := if t < h then h - t else 0
def facG (kind x hour : Int) : Fa × Int := if kind = 1 then (⟨lateV kind (hourV x hour) (thr (nxt4 x) 40), (factV x hour).a, (factV x hour).b, (factV x hour).v⟩, nxt (nxt4 x)) else (factV x hour, nxt4 x)
def ingX (kind x hour : Int) : Nat → Int
  | 0 => x
  | j + 1 => (facG kind (ingX kind x hour j) hour).2
def ingL (kind x hour : Int) : Nat → List Fa
  | 0 => []
  | j + 1 => ingL kind x hour j ++ [(facG kind (ingX kind x hour j) hour).1]
theorem info88 : (Try.prog.info? 88).map (fun i => (i.zero, i.size, i.bytes)) = some (some (.agg #[.int .i64 0, .string { data := #[] }, .string { data := #[] }, .string { data := #[] }, .string { data := #[] }, .int .i64 0]), 6, 80) := by kernel_rfl
theorem hourV_bd (x hour : Int) (h0 : 0 ≤ hour) (h1 : hour ≤ 1000000) : 0 ≤ hourV x hour ∧ hourV x hour ≤ hour := by
  have := thr_bd x 4 (by omega)
  unfold hourV
  split <;> omega
theorem ingL_len (kind x hour : Int) : ∀ j, (ingL kind x hour j).length = j
  | 0 => rfl
  | j + 1 => by unfold ingL; rw [List.length_append, ingL_len kind x hour j]; rfl
theorem ingL_cap (kind x hour : Int) (i n : Nat) (hn3 : n ≤ 3) (dd : i < n) : ((ingL kind x hour i).length + 1) * 80 ≤ 140737488355328 := by
  have h9 := ingL_len kind x hour i
  omega
def ding.T3 : Bool × List (List Nat × List Nat) := (true, [([], []), ([0], [0]), ([1], [1]), ([2], [2]), ([], []), ([4], [4]), ([5], [5]), ([6], [6]), ([3, 7], [3, 7]), ([], []), ([9, 8, 8, 0, 1, 2, 3, 4, 5, 6, 7, 8, 9], [8, 9])])
def ding.B3 : List Nat := [0, 1, 3, 7, 0, 16, 48, 112, 255, 0, 1023]
theorem ding.tab3 : rtab .any (opsOf Try.f34 3) = ding.T3 := by kernel_rfl
theorem ding.bits3 : waitsOk ding.T3.2 ding.B3 = true := by kernel_rfl
def ding.T5 : Bool × List (List Nat × List Nat) := (true, [([], []), ([0], [0]), ([1], [1]), ([], []), ([3], [3]), ([4], [4]), ([5], [5]), ([6], [6]), ([2, 7], [2, 7]), ([8], [8]), ([0, 1, 2, 3, 4, 5, 6, 7, 8, 9], []), ([10, 0, 1, 2, 3, 4, 5, 6, 7, 8, 9], [10]), ([11, 9, 7, 0, 1, 2, 3, 4, 5, 6, 7, 8, 9], [9, 11])])
def ding.B5 : List Nat := [0, 1, 3, 0, 8, 24, 56, 120, 255, 511, 1023, 2047, 4095]
theorem ding.tab5 : rtab .any (opsOf Try.f34 5) = ding.T5 := by kernel_rfl
theorem ding.bits5 : waitsOk ding.T5.2 ding.B5 = true := by kernel_rfl
set_option maxHeartbeats 8000000 in
set_option maxRecDepth 100000 in
theorem ingest.calls (B g d : Nat) (x kind hour : Int) (v : Value) (xs : List Sx) (w0 w : World) (hB : B ≤ g) (hBd : B ≤ d) (hg : g ≠ d) (h : DS B g d x kind hour v xs w0 w) (hx : xs.length ≤ 50000) (h0 : 0 ≤ hour) (h1 : hour ≤ 1000000) :
    Calls Try.prog 34 #[.pointer (some ⟨d, 0, none⟩)] w fun e w' => e = .returned (.tuple #[]) ∧ DP B g d (ingX kind (nxt x) hour (thr x 3 + 1).toNat) kind hour (xs ++ [⟨1, 0, ingL kind (nxt x) hour (thr x 3 + 1).toNat, false, []⟩]) w0 w' := by
  have t3 := thr_bd x 3 (by omega)
  obtain ⟨n, hn⟩ : ∃ n : Nat, thr x 3 + 1 = n := ⟨(thr x 3 + 1).toNat, by omega⟩
  have hn3 : n ≤ 3 := by omega
  have w3 : wrap64 (thr x 3 + 1) = n := by rw [← hn]; unfold wrap64; omega
  rw [hn, Int.toNat_natCast]
  clear t3
  have hgw := blk_lt h.dice.blk
  have hdw := blk_lt h.blk
  have hvw : ∀ k, v.ownBlock = some k → k < w.heap.size := Kd.R_lt h.row
  have HV := Aside0.mk hvw
  have HD := Aside0.mk h
  have c0 := h.c0
  clear h hvw
  go_enter Try.func34, Try.ntmps34
  go_wp2_with fail
  clear c0
  refine (HD.out.next hB hg 3 (by omega) (by omega)).mono ?_
  rintro e w1 ⟨rfl, hh, hf⟩
  have HW := Aside0.mk (show IG B g (nxt x) w0 w w1 from ⟨hh.dice, hf, hh.b⟩)
  clear hh hf
  go_wp2
  clear hn w3
  go_loopw [2, 10] (fun x2 x10 wr => ∃ i : Nat, x10 = .int .i64 i ∧ i ≤ n ∧ Aside0 (IG B g (ingX kind (nxt x) hour i) w0 w wr) ∧ Aside0 (Kd.R factK 88 wr B (fun k => w.heap.size ≤ k) x2 (ingL kind (nxt x) hour i))) (fun _ x10 _ => n - (intOf x10).toNat)
  case atStart => exact ⟨0, rfl, by omega, HW, ⟨Kd.R_nil _ _ _ _ _⟩⟩
  case round =>
    clear HW
    obtain ⟨i, rfl, hi, HW, HL⟩ := hrel
    by_cases dd : i < n
    · have dl : decide ((i : Int) < (n : Int)) = true := decide_eq_true (by omega)
      have hw : wrap64 ((i : Int) + 1) = ((i + 1 : Nat) : Int) := by unfold wrap64; omega
      replace HW := Aside0.mk (HW.out.below hB (below_drew1 (Below.refl _ wr)))
      replace HL := Aside0.mk (Kd.R_below HL.out (below_drew1 (Below.refl _ wr)))
      have HI := Aside0.mk (show IG B g (ingX kind (nxt x) hour i) w0 wr.drew wr.drew from ⟨HW.out.dice, Far.refl _ _, HW.out.b⟩)
      go_wp2_with fail
      refine start_ (n := 11) (S := fun w' => w'.cell? ⟨d, 0, none⟩ = some (.pointer (some ⟨g, 0, none⟩)) ∧ w'.cell? ⟨d, 2, none⟩ = some (.int .i64 hour)) (ds := [10]) #[false, false, false, false, false, false, false, false, false, false, false] (by kernel_rfl) rfl rfl ⟨(IG.ds HD.out hg (HW.out.trans HI.out)).c0, (IG.ds HD.out hg (HW.out.trans HI.out)).c2⟩ (fun hHeld => ?_)
      refine with_tabW ding.tab3 ding.bits3 (fun HT_ HW_ => ?_)
      generalize hWW : World.drew _ = W at HI HW HL hHeld ⊢
      clear hWW
      refine pure_ (i := 0) (N := some 12) (v := ?_) (a' := ?_) #[true, false, false, false, false, false, false, false, false, false, false] rfl rfl (any_of HT_.out (by kernel_rfl)) (fun _ _ _ h => h) (Or.inl ⟨by rfl, ?_⟩) ?_ ?_
      rotate_left
      · intro w'
        go_simp
        with_reducible rfl
      rotate_left
      · simp only [Act.put, List.setIfInBounds_toArray, List.set_cons_zero, List.set_cons_succ, i64_w, i32_w]
        rfl
      refine pure_ (i := 1) (N := some 13) (v := ?_) (a' := ?_) #[true, true, false, false, false, false, false, false, false, false, false] rfl rfl (any_of HT_.out (by kernel_rfl)) (fun _ _ _ h => h) (Or.inl ⟨by rfl, ?_⟩) ?_ ?_
      rotate_left
      · intro w'
        go_simp
        with_reducible rfl
      rotate_left
      · simp only [Act.put, List.setIfInBounds_toArray, List.set_cons_zero, List.set_cons_succ, i64_w, i32_w]
        rfl
      refine pure_ (i := 2) (N := some 14) (v := ?_) (a' := ?_) #[true, true, true, false, false, false, false, false, false, false, false] rfl rfl (any_of HT_.out (by kernel_rfl)) (fun _ _ _ h => h) (Or.inl ⟨by rfl, ?_⟩) ?_ ?_
      rotate_left
      · intro w'
        go_simp
        with_reducible rfl
      rotate_left
      · simp only [Act.put, List.setIfInBounds_toArray, List.set_cons_zero, List.set_cons_succ, i64_w, i32_w]
        rfl
      refine pure_ (i := 4) (N := some 16) (v := ?_) (a' := ?_) #[true, true, true, false, true, false, false, false, false, false, false] rfl rfl (any_of HT_.out (by kernel_rfl)) (fun _ _ _ h => h) (Or.inl ⟨by rfl, ?_⟩) ?_ ?_
      rotate_left
      · intro w'
        go_simp
        with_reducible rfl
      rotate_left
      · simp only [Act.put, List.setIfInBounds_toArray, List.set_cons_zero, List.set_cons_succ, i64_w, i32_w]
        rfl
      refine pure_ (i := 5) (N := some 17) (v := ?_) (a' := ?_) #[true, true, true, false, true, true, false, false, false, false, false] rfl rfl (any_of HT_.out (by kernel_rfl)) (fun _ _ _ h => h) (Or.inl ⟨by rfl, ?_⟩) ?_ ?_
      rotate_left
      · intro w'
        go_simp
        with_reducible rfl
      rotate_left
      · simp only [Act.put, List.setIfInBounds_toArray, List.set_cons_zero, List.set_cons_succ, i64_w, i32_w]
        rfl
      refine pure_ (i := 6) (N := some 18) (v := ?_) (a' := ?_) #[true, true, true, false, true, true, true, false, false, false, false] rfl rfl (any_of HT_.out (by kernel_rfl)) (fun _ _ _ h => h) (Or.inl ⟨by rfl, ?_⟩) ?_ ?_
      rotate_left
      · intro w'
        go_simp
        with_reducible rfl
      rotate_left
      · simp only [Act.put, List.setIfInBounds_toArray, List.set_cons_zero, List.set_cons_succ, i64_w, i32_w]
        rfl
      refine take_ (i := 3) (N := some 15) (v := ?_) (a' := ?_) #[true, true, true, true, true, true, true, false, false, false, false] rfl rfl (take_ofW HT_.out HW_.out (by kernel_rfl)) (fun _ _ _ h => h) (Or.inl ⟨by rfl, ?_⟩) hHeld ?_ ?_
      rotate_left
      · rintro w' ⟨s0, s1⟩
        go_simp
        with_reducible rfl
      rotate_left
      · simp only [Act.put, List.setIfInBounds_toArray, List.set_cons_zero, List.set_cons_succ, i64_w, i32_w]
        rfl
      refine take_ (i := 7) (N := some 19) (v := ?_) (a' := ?_) #[true, true, true, true, true, true, true, true, false, false, false] rfl rfl (take_ofW HT_.out HW_.out (by kernel_rfl)) (fun _ _ _ h => h) (Or.inl ⟨by rfl, ?_⟩) hHeld ?_ ?_
      rotate_left
      · rintro w' ⟨s0, s1⟩
        go_simp
        with_reducible rfl
      rotate_left
      · simp only [Act.put, List.setIfInBounds_toArray, List.set_cons_zero, List.set_cons_succ, i64_w, i32_w]
        rfl
      refine join_ (σ := Nat) 1 #[true, true, true, true, true, true, true, true, true, true, false] (fun s => [(3, .pointer (some ⟨s, 0, none⟩)), (20, .agg (factV (ingX kind (nxt x) hour i) hour).cells)]) (fun s w' => W.heap.size ≤ s ∧ RD B g s (nxt4 (ingX kind (nxt x) hour i)) #[.int .i64 0, .string { data := #[] }, .string { data := #[] }, .string { data := #[] }, .string { data := #[] }, .int .i64 0] w0 W w') ?_ ?_
      rotate_left
      · intro hCont
        refine two_ (i := 8) (j := 9) (Ni := some 20) (Nj := some 3) #[true, true, true, true, true, true, true, true, true, false, false] #[true, true, true, true, true, true, true, true, false, true, false] rfl rfl rfl rfl (by kernel_rfl) (by decide) (by decide) (fun K hK => ?_) (fun K hK => ?_)
        · skip
          refine goes_ Try.func46 (by kernel_rfl) rfl #[.pointer (some ⟨g, 0, none⟩), .int .i64 hour] (by rfl) rfl rfl (by (try simp only [List.map_toArray, List.map_cons, List.map_nil]); first | done | rfl) ?_
          refine (HI.out.fact hB hour h0 (by omega)).mono ?_
          rintro e u1 ⟨rfl, hi1, hf1⟩
          refine ⟨_, rfl, ?_⟩
          have HI1 := Aside0.mk hi1
          have HF1 := Aside0.mk hf1
          clear hi1 hf1
          refine hK.out _ _ ⟨((IG.ds HD.out hg (HW.out.trans HI1.out)).c0), ((IG.ds HD.out hg (HW.out.trans HI1.out)).c2)⟩ (fun hHeld => ?_)
          clear hK K
          refine norm_ (a' := ?_) ?_ ?_
          rotate_left
          · show Act.put _ (some 20) _ = _
            simp only [Act.put, List.setIfInBounds_toArray, List.set_cons_zero, List.set_cons_succ, i64_w, i32_w]
            rfl
          refine one_ (i := 9) (N := some 3) #[true, true, true, true, true, true, true, true, true, true, false] rfl rfl (one_of HT_.out (by kernel_rfl)) (by decide) (fun K hK => ?_)
          refine value_ (w1 := ?_) (v := ?_) (by rfl) rfl ?_ ?_
          rotate_left 2
          · go_simp
            constructor
            · rfl
            · rfl
          have HA2 := Aside0.mk (show RD B g u1.heap.size (nxt4 (ingX kind (nxt x) hour i)) #[.int .i64 0, .string { data := #[] }, .string { data := #[] }, .string { data := #[] }, .string { data := #[] }, .int .i64 0] w0 W (u1.alloc (.cells #[.int .i64 0, .string { data := #[] }, .string { data := #[] }, .string { data := #[] }, .string { data := #[] }, .int .i64 0] 88 (0, 0))) from ⟨HI1.out.below hB ((Below.refl _ u1).alloc (Nat.le_refl _) _), blk_new u1 _⟩)
          have hsz := HF1.out.size
          refine hK.out _ _ ⟨((IG.ds HD.out hg (HW.out.trans HA2.out.ig)).c0), ((IG.ds HD.out hg (HW.out.trans HA2.out.ig)).c2)⟩ (fun hHeld => ?_)
          clear hK K
          refine norm_ (a' := ?_) ?_ ?_
          rotate_left
          · show Act.put _ (some 3) _ = _
            simp only [Act.put, List.setIfInBounds_toArray, List.set_cons_zero, List.set_cons_succ, i64_w, i32_w]
            rfl
          exact norm_ (by simp only [putAll, Act.put, List.setIfInBounds_toArray, List.set_cons_zero, List.set_cons_succ]) (hCont u1.heap.size _ ⟨hsz, HA2.out⟩)
        · skip
          refine value_ (w1 := ?_) (v := ?_) (by rfl) rfl ?_ ?_
          rotate_left 2
          · go_simp
            constructor
            · rfl
            · rfl
          have HA1 := Aside0.mk (show RD B g W.heap.size (ingX kind (nxt x) hour i) #[.int .i64 0, .string { data := #[] }, .string { data := #[] }, .string { data := #[] }, .string { data := #[] }, .int .i64 0] w0 W (W.alloc (.cells #[.int .i64 0, .string { data := #[] }, .string { data := #[] }, .string { data := #[] }, .string { data := #[] }, .int .i64 0] 88 (0, 0))) from ⟨HI.out.below hB ((Below.refl _ W).alloc (Nat.le_refl _) _), blk_new W _⟩)
          refine hK.out _ _ ⟨((IG.ds HD.out hg (HW.out.trans HA1.out.ig)).c0), ((IG.ds HD.out hg (HW.out.trans HA1.out.ig)).c2)⟩ (fun hHeld => ?_)
          clear hK K
          refine norm_ (a' := ?_) ?_ ?_
          rotate_left
          · show Act.put _ (some 3) _ = _
            simp only [Act.put, List.setIfInBounds_toArray, List.set_cons_zero, List.set_cons_succ, i64_w, i32_w]
            rfl
          refine one_ (i := 8) (N := some 20) #[true, true, true, true, true, true, true, true, true, true, false] rfl rfl (one_of HT_.out (by kernel_rfl)) (by decide) (fun K hK => ?_)
          refine goes_ Try.func46 (by kernel_rfl) rfl #[.pointer (some ⟨g, 0, none⟩), .int .i64 hour] (by rfl) rfl rfl (by (try simp only [List.map_toArray, List.map_cons, List.map_nil]); first | done | rfl) ?_
          refine (HA1.out.ig.fact hB hour h0 (by omega)).mono ?_
          rintro e u2 ⟨rfl, hi2, hf2⟩
          refine ⟨_, rfl, ?_⟩
          have HA2 := Aside0.mk (show RD B g W.heap.size (nxt4 (ingX kind (nxt x) hour i)) #[.int .i64 0, .string { data := #[] }, .string { data := #[] }, .string { data := #[] }, .string { data := #[] }, .int .i64 0] w0 W u2 from ⟨hi2, hf2.blk HA1.out.bf (fun e => by have := blk_lt HI.out.dice.blk; omega)⟩)
          clear hi2 hf2
          refine hK.out _ _ ⟨((IG.ds HD.out hg (HW.out.trans HA2.out.ig)).c0), ((IG.ds HD.out hg (HW.out.trans HA2.out.ig)).c2)⟩ (fun hHeld => ?_)
          clear hK K
          refine norm_ (a' := ?_) ?_ ?_
          rotate_left
          · show Act.put _ (some 20) _ = _
            simp only [Act.put, List.setIfInBounds_toArray, List.set_cons_zero, List.set_cons_succ, i64_w, i32_w]
            rfl
          exact norm_ (by simp only [putAll, Act.put, List.setIfInBounds_toArray, List.set_cons_zero, List.set_cons_succ]) (hCont W.heap.size _ ⟨Nat.le_refl _, HA2.out⟩)
      rintro p u ⟨hp, hh⟩
      have HA := Aside0.mk hh
      have hgp : g ≠ p := by have := blk_lt HI.out.dice.blk; omega
      clear hh
      have hHeld : (fun w' : World => w'.cell? ⟨d, 0, none⟩ = some (.pointer (some ⟨g, 0, none⟩)) ∧ w'.cell? ⟨d, 2, none⟩ = some (.int .i64 hour)) u := ⟨(IG.ds HD.out hg (HW.out.trans HA.out.ig)).c0, (IG.ds HD.out hg (HW.out.trans HA.out.ig)).c2⟩
      refine norm_ (a' := ?_) ?_ ?_
      rotate_left
      · simp only [putAll, Act.put, List.setIfInBounds_toArray, List.set_cons_zero, List.set_cons_succ]
        rfl
      refine last_ (i := 10) (N := none) #[true, true, true, true, true, true, true, true, true, true, true] rfl rfl (by kernel_rfl) (by decide) (fun K hK => ?_)
      obtain ⟨q0, q1, q2, q3, q4, q5⟩ := (show _ ∧ _ ∧ _ ∧ _ ∧ _ ∧ _ from ⟨blk_cell HA.out.bf 0, blk_cell HA.out.bf 1, blk_cell HA.out.bf 2, blk_cell HA.out.bf 3, blk_cell HA.out.bf 4, blk_cell HA.out.bf 5⟩)
      simp only [List.getElem?_toArray, List.getElem?_cons_zero, List.getElem?_cons_succ] at q0 q1 q2 q3 q4 q5
      have r0 := blk_frozen HA.out.bf 0
      have r1 := blk_frozen HA.out.bf 1
      have r2 := blk_frozen HA.out.bf 2
      have r3 := blk_frozen HA.out.bf 3
      have r4 := blk_frozen HA.out.bf 4
      have r5 := blk_frozen HA.out.bf 5
      have hcs : (factV (ingX kind (nxt x) hour i) hour).cells = #[.int .i64 (factV (ingX kind (nxt x) hour i) hour).h, .string (factV (ingX kind (nxt x) hour i) hour).a, .string (factV (ingX kind (nxt x) hour i) hour).b, .string { data := #[] }, .string { data := #[] }, .int .i64 (factV (ingX kind (nxt x) hour i) hour).v] := rfl
      rw [hcs]
      refine skip_ (w1 := ?_) (by rfl) rfl ?_ ?_
      rotate_left
      · go_simp
        rfl
      clear hcs q0 q1 q2 q3 q4 q5 r0 r1 r2 r3 r4 r5
      refine hK.out _ _ ?_
      clear hK K
      refine done_ (done_of HT_.out (by kernel_rfl)) ?_

      clear hHeld
      have hBp : B ≤ p := by have := blk_lt HI.out.dice.blk; omega
      have H6 := Aside0.mk (HA.out.put6 (.int .i64 (factV (ingX kind (nxt x) hour i) hour).h) (.string (factV (ingX kind (nxt x) hour i) hour).a) (.string (factV (ingX kind (nxt x) hour i) hour).b) (.string { data := #[] }) (.string { data := #[] }) (.int .i64 (factV (ingX kind (nxt x) hour i) hour).v) hgp hBp hp)
      generalize hWW : World.setCell _ _ _ = W5 at H6 ⊢
      clear hWW HA
      generalize hX : ingX kind (nxt x) hour i = X at HI HW H6 ⊢
      have c1 := (IG.ds HD.out hg (HW.out.trans H6.out.ig)).c1
      by_cases hk : kind = 1
      · have k1 : (kind == 1) = true := by simp; omega
        have tl := thr_bd (nxt4 X) 40 (by omega)
        have hb4 := hourV_bd X hour h0 h1
        have w4 : wrap64 ((factV X hour).h - thr (nxt4 X) 40) = (factV X hour).h - thr (nxt4 X) 40 := by
          have : (factV X hour).h = hourV X hour := rfl
          unfold wrap64; omega
        go_wp2_with fail
        refine start_ (n := 13) (S := fun w' => w'.cell? ⟨p, 0, none⟩ = some (.int .i64 (factV X hour).h) ∧ w'.cell? ⟨d, 0, none⟩ = some (.pointer (some ⟨g, 0, none⟩))) (ds := [12]) #[false, false, false, false, false, false, false, false, false, false, false, false, false] (by kernel_rfl) rfl rfl ⟨(blk_cell H6.out.bf 0), (IG.ds HD.out hg (HW.out.trans H6.out.ig)).c0⟩ (fun hHeld => ?_)
        refine with_tabW ding.tab5 ding.bits5 (fun HT_ HW_ => ?_)
        replace H6 := Aside0.mk (H6.out.below hB (below_drew1 (Below.refl _ _)))
        generalize hWW : World.drew _ = W6 at H6 hHeld ⊢
        clear hWW
        refine pure_ (i := 0) (N := some 26) (v := ?_) (a' := ?_) #[true, false, false, false, false, false, false, false, false, false, false, false, false] rfl rfl (any_of HT_.out (by kernel_rfl)) (fun _ _ _ h => h) (Or.inl ⟨by rfl, ?_⟩) ?_ ?_
        rotate_left
        · intro w'
          go_simp
          with_reducible rfl
        rotate_left
        · simp only [Act.put, List.setIfInBounds_toArray, List.set_cons_zero, List.set_cons_succ, i64_w, i32_w]
          rfl
        refine pure_ (i := 1) (N := some 27) (v := ?_) (a' := ?_) #[true, true, false, false, false, false, false, false, false, false, false, false, false] rfl rfl (any_of HT_.out (by kernel_rfl)) (fun _ _ _ h => h) (Or.inl ⟨by rfl, ?_⟩) ?_ ?_
        rotate_left
        · intro w'
          go_simp
          with_reducible rfl
        rotate_left
        · simp only [Act.put, List.setIfInBounds_toArray, List.set_cons_zero, List.set_cons_succ, i64_w, i32_w]
          rfl
        refine pure_ (i := 3) (N := some 29) (v := ?_) (a' := ?_) #[true, true, false, true, false, false, false, false, false, false, false, false, false] rfl rfl (any_of HT_.out (by kernel_rfl)) (fun _ _ _ h => h) (Or.inl ⟨by rfl, ?_⟩) ?_ ?_
        rotate_left
        · intro w'
          go_simp
          with_reducible rfl
        rotate_left
        · simp only [Act.put, List.setIfInBounds_toArray, List.set_cons_zero, List.set_cons_succ, i64_w, i32_w]
          rfl
        refine pure_ (i := 4) (N := some 30) (v := ?_) (a' := ?_) #[true, true, false, true, true, false, false, false, false, false, false, false, false] rfl rfl (any_of HT_.out (by kernel_rfl)) (fun _ _ _ h => h) (Or.inl ⟨by rfl, ?_⟩) ?_ ?_
        rotate_left
        · intro w'
          go_simp
          with_reducible rfl
        rotate_left
        · simp only [Act.put, List.setIfInBounds_toArray, List.set_cons_zero, List.set_cons_succ, i64_w, i32_w]
          rfl
        refine pure_ (i := 5) (N := some 31) (v := ?_) (a' := ?_) #[true, true, false, true, true, true, false, false, false, false, false, false, false] rfl rfl (any_of HT_.out (by kernel_rfl)) (fun _ _ _ h => h) (Or.inl ⟨by rfl, ?_⟩) ?_ ?_
        rotate_left
        · intro w'
          go_simp
          with_reducible rfl
        rotate_left
        · simp only [Act.put, List.setIfInBounds_toArray, List.set_cons_zero, List.set_cons_succ, i64_w, i32_w]
          rfl
        refine take_ (i := 2) (N := some 28) (v := ?_) (a' := ?_) #[true, true, true, true, true, true, false, false, false, false, false, false, false] rfl rfl (take_ofW HT_.out HW_.out (by kernel_rfl)) (fun _ _ _ h => h) (Or.inl ⟨by rfl, ?_⟩) hHeld ?_ ?_
        rotate_left
        · rintro w' ⟨s0, s1⟩
          go_simp
          with_reducible rfl
        rotate_left
        · simp only [Act.put, List.setIfInBounds_toArray, List.set_cons_zero, List.set_cons_succ, i64_w, i32_w]
          rfl
        refine take_ (i := 6) (N := some 32) (v := ?_) (a' := ?_) #[true, true, true, true, true, true, true, false, false, false, false, false, false] rfl rfl (take_ofW HT_.out HW_.out (by kernel_rfl)) (fun _ _ _ h => h) (Or.inl ⟨by rfl, ?_⟩) hHeld ?_ ?_
        rotate_left
        · rintro w' ⟨s0, s1⟩
          go_simp
          with_reducible rfl
        rotate_left
        · simp only [Act.put, List.setIfInBounds_toArray, List.set_cons_zero, List.set_cons_succ, i64_w, i32_w]
          rfl
        refine one_ (i := 7) (N := some 33) #[true, true, true, true, true, true, true, true, false, false, false, false, false] rfl rfl (one_of HT_.out (by kernel_rfl)) (by decide) (fun K hK => ?_)
        refine goes_ Try.func33 (by kernel_rfl) rfl #[.pointer (some ⟨g, 0, none⟩), .int .i64 40] (by rfl) rfl rfl (by (try simp only [List.map_toArray, List.map_cons, List.map_nil]); first | done | rfl) ?_
        refine (H6.out.next hB hgp 40 (by omega) (by omega)).mono ?_
        rintro e u7 ⟨rfl, hh⟩
        refine ⟨_, rfl, ?_⟩
        have H7 := Aside0.mk hh
        clear hh
        refine hK.out _ _ ⟨(blk_cell H7.out.bf 0), (IG.ds HD.out hg (HW.out.trans H7.out.ig)).c0⟩ (fun hHeld => ?_)
        clear hK K
        refine norm_ (a' := ?_) ?_ ?_
        rotate_left
        · show Act.put _ (some 33) _ = _
          simp only [Act.put, List.setIfInBounds_toArray, List.set_cons_zero, List.set_cons_succ, i64_w, i32_w]
          rfl
        refine pure_ (i := 8) (N := some 34) (v := ?_) (a' := ?_) #[true, true, true, true, true, true, true, true, true, false, false, false, false] rfl rfl (any_of HT_.out (by kernel_rfl)) (fun _ _ _ h => h) (Or.inl ⟨by rfl, ?_⟩) ?_ ?_
        rotate_left
        · intro w'
          go_simp
          with_reducible rfl
        rotate_left
        · simp only [Act.put, List.setIfInBounds_toArray, List.set_cons_zero, List.set_cons_succ, i64_w, i32_w]
          rfl
        refine pure_ (i := 9) (N := some 35) (v := ?_) (a' := ?_) #[true, true, true, true, true, true, true, true, true, true, false, false, false] rfl rfl (any_of HT_.out (by kernel_rfl)) (fun _ _ _ h => h) (Or.inl ⟨by rfl, ?_⟩) ?_ ?_
        rotate_left
        · intro w'
          go_simp
          with_reducible rfl
        rotate_left
        · simp only [Act.put, List.setIfInBounds_toArray, List.set_cons_zero, List.set_cons_succ, i64_w, i32_w]
          rfl
        refine pure_ (i := 10) (N := some 36) (v := ?_) (a' := ?_) #[true, true, true, true, true, true, true, true, true, true, true, false, false] rfl rfl (any_of HT_.out (by kernel_rfl)) (fun _ _ _ h => h) (Or.inl ⟨by rfl, ?_⟩) ?_ ?_
        rotate_left
        · intro w'
          go_simp
          with_reducible rfl
        rotate_left
        · simp only [Act.put, List.setIfInBounds_toArray, List.set_cons_zero, List.set_cons_succ, i64_w, i32_w]
          rfl
        refine pure_ (i := 11) (N := some 37) (v := ?_) (a' := ?_) #[true, true, true, true, true, true, true, true, true, true, true, true, false] rfl rfl (any_of HT_.out (by kernel_rfl)) (fun _ _ _ h => h) (Or.inl ⟨by rfl, ?_⟩) ?_ ?_
        rotate_left
        · intro w'
          go_simp
          with_reducible rfl
        rotate_left
        · simp only [Act.put, List.setIfInBounds_toArray, List.set_cons_zero, List.set_cons_succ, i64_w, i32_w]
          rfl
        refine last_ (i := 12) (N := none) #[true, true, true, true, true, true, true, true, true, true, true, true, true] rfl rfl (by kernel_rfl) (by decide) (fun K hK => ?_)
        have q0 := blk_cell H7.out.bf 0
        have r0 := blk_frozen H7.out.bf 0
        simp only [List.getElem?_toArray, List.getElem?_cons_zero, List.getElem?_cons_succ] at q0
        refine skip_ (w1 := ?_) (by rfl) rfl ?_ ?_
        rotate_left
        · go_simp
          rfl
        clear q0 r0
        refine hK.out _ _ ?_
        clear hK K
        refine done_ (done_of HT_.out (by kernel_rfl)) ?_

        rw [show (if thr (nxt4 X) 40 < (factV X hour).h then (factV X hour).h - thr (nxt4 X) 40 else 0) = lateV kind (factV X hour).h (thr (nxt4 X) 40) from rfl]
        have H8 := Aside0.mk (H7.out.put hgp hBp hp 0 (.int .i64 (lateV kind (factV X hour).h (thr (nxt4 X) 40))) (cs' := #[.int .i64 (lateV kind (factV X hour).h (thr (nxt4 X) 40)), .string (factV X hour).a, .string (factV X hour).b, .string { data := #[] }, .string { data := #[] }, .int .i64 (factV X hour).v]) rfl)
        generalize hWW : World.setCell _ _ _ = W9 at H8 ⊢
        clear hWW H7 H6 w4
        clear hHeld
        obtain ⟨fx, y, hfa⟩ : ∃ fx y, facG kind X hour = (fx, y) := ⟨_, _, rfl⟩
        have H9 := Aside0.mk (show RD B g p y #[.int .i64 fx.h, .string fx.a, .string fx.b, .string { data := #[] }, .string { data := #[] }, .int .i64 fx.v] w0 W W9 by
          have h := H8.out
          have e : facG kind X hour = (⟨lateV kind (factV X hour).h (thr (nxt4 X) 40), (factV X hour).a, (factV X hour).b, (factV X hour).v⟩, nxt (nxt4 X)) := if_pos hk
          rw [e] at hfa
          cases hfa
          exact h)
        have HX := Aside0.mk (⟨hX, hfa⟩ : ingX kind (nxt x) hour i = X ∧ facG kind X hour = (fx, y))
        clear hX hfa H8 hb4 tl
        have q0 := blk_cell H9.out.bf 0
        have q1 := blk_cell H9.out.bf 1
        have q2 := blk_cell H9.out.bf 2
        have q3 := blk_cell H9.out.bf 3
        have q4 := blk_cell H9.out.bf 4
        have q5 := blk_cell H9.out.bf 5
        simp only [List.getElem?_toArray, List.getElem?_cons_zero, List.getElem?_cons_succ] at q0 q1 q2 q3 q4 q5
        have HL9 := Aside0.mk (R_move' (w1 := W9) HL.out (fun k hk _ => H9.out.ig.f.block k (by assumption) (fun e => by omega)))
        have hWs := H9.out.ig.b.size
        have hWg := blk_lt H9.out.ig.dice.blk
        have hWp := blk_lt H9.out.bf
        have hWw := HW.out.f.size
        have hW9 := H9.out.ig.f.size
        have hll := Aside0.mk (ingL_cap kind (nxt x) hour i n hn3 dd)
        go_wp2_with ((with_reducible refine gate_builtin (b := .append) (xs := #[.tmp 38, .tmp 40]) rfl ?_); at_builtin; refine Kd.R_append_rows factK (w0 := w0) B rfl (.tmp 38) (.tmp 40) 57 88 (.agg #[.int .i64 0, .string { data := #[] }, .string { data := #[] }, .string { data := #[] }, .string { data := #[] }, .int .i64 0]) 80 rfl Try.underlying57 info88 rfl (by decide) (by omega) u2 (ingL kind (nxt x) hour i) [fx] (some ⟨W9.heap.size, 0, none⟩) 1 1 (fun k => w.heap.size ≤ k) (fun _ => False) rfl rfl ?aO ?aR (fun _ _ h => h) (fun _ h => h.elim) ?aF ?aB ?aS ?aL ?_; (case aF => intro k hk; simp at hk; omega); (case aO => exact Kd.R_below HL9.out ((Below.refl _ _).alloc (Nat.le_refl _) _)); (case aR => exact lit1 (R := fun (x : Fa) cs => cs = x.list) (blk_new W9 (.cells (Fa.list (fx)).toArray 88 (0, 0))) rfl rfl); (case aB => exact H9.out.ig.b.alloc (by omega) _); (case aS => simp; omega); (case aL => exact hll.out); intro v9 w9 ho hb hgr hat; have HR9 := Aside0.mk ho; have HB9 := Aside0.mk hb; have HG9 := Aside0.mk hgr; clear ho hb hgr hat)
        go_wp2
        go_roundw
        case rel =>
          have hi2 := H9.out.ig
          have hg9 : ∀ k, u2.ownBlock = some k → w.heap.size ≤ k := HL9.out.1
          refine ⟨i + 1, rfl, by omega, ⟨?_⟩, ⟨?_⟩⟩
          · have e : ingX kind (nxt x) hour (i + 1) = y := by show (facG kind (ingX kind (nxt x) hour i) hour).2 = y; rw [HX.out.1, HX.out.2]
            rw [e]
            have hal : Below W9.heap.size W9 (W9.alloc (.cells (Fa.list fx).toArray 88 (0, 0))) := (Below.refl _ _).alloc (Nat.le_refl _) _
            have h2 := (HW.out.trans hi2).below hB hal
            exact ⟨⟨blk_grown h2.dice.blk HG9.out (fun e => by have := hg9 g e.symm; omega)⟩, Far.grown h2.f HG9.out (fun k hk => .inl (hg9 k hk)), HB9.out⟩
          · have e : ingL kind (nxt x) hour (i + 1) = ingL kind (nxt x) hour i ++ [fx] := by show _ ++ [(facG kind (ingX kind (nxt x) hour i) hour).1] = _; rw [HX.out.1, HX.out.2]
            rw [e]; exact HR9.out
        case measure => simp only [intOf]; omega
      · have k1 : (kind == 1) = false := by simp; omega
        obtain ⟨fx, y, hfa⟩ : ∃ fx y, facG kind X hour = (fx, y) := ⟨_, _, rfl⟩
        obtain ⟨W9, hW9⟩ : ∃ W9, W9 = W5 := ⟨_, rfl⟩
        rw [← hW9] at H6 c1 ⊢
        have H9 := Aside0.mk (show RD B g p y #[.int .i64 fx.h, .string fx.a, .string fx.b, .string { data := #[] }, .string { data := #[] }, .int .i64 fx.v] w0 W W9 by
          have h := H6.out
          have e : facG kind X hour = (factV X hour, nxt4 X) := if_neg hk
          rw [e] at hfa
          cases hfa
          exact h)
        have HX := Aside0.mk (⟨hX, hfa⟩ : ingX kind (nxt x) hour i = X ∧ facG kind X hour = (fx, y))
        clear hX hfa H6 hW9
        have q0 := blk_cell H9.out.bf 0
        have q1 := blk_cell H9.out.bf 1
        have q2 := blk_cell H9.out.bf 2
        have q3 := blk_cell H9.out.bf 3
        have q4 := blk_cell H9.out.bf 4
        have q5 := blk_cell H9.out.bf 5
        simp only [List.getElem?_toArray, List.getElem?_cons_zero, List.getElem?_cons_succ] at q0 q1 q2 q3 q4 q5
        have HL9 := Aside0.mk (R_move' (w1 := W9) HL.out (fun k hk _ => H9.out.ig.f.block k (by assumption) (fun e => by omega)))
        have hWs := H9.out.ig.b.size
        have hWg := blk_lt H9.out.ig.dice.blk
        have hWp := blk_lt H9.out.bf
        have hWw := HW.out.f.size
        have hW9 := H9.out.ig.f.size
        have hll := Aside0.mk (ingL_cap kind (nxt x) hour i n hn3 dd)
        go_wp2_with ((with_reducible refine gate_builtin (b := .append) (xs := #[.tmp 38, .tmp 40]) rfl ?_); at_builtin; refine Kd.R_append_rows factK (w0 := w0) B rfl (.tmp 38) (.tmp 40) 57 88 (.agg #[.int .i64 0, .string { data := #[] }, .string { data := #[] }, .string { data := #[] }, .string { data := #[] }, .int .i64 0]) 80 rfl Try.underlying57 info88 rfl (by decide) (by omega) u2 (ingL kind (nxt x) hour i) [fx] (some ⟨W9.heap.size, 0, none⟩) 1 1 (fun k => w.heap.size ≤ k) (fun _ => False) rfl rfl ?aO ?aR (fun _ _ h => h) (fun _ h => h.elim) ?aF ?aB ?aS ?aL ?_; (case aF => intro k hk; simp at hk; omega); (case aO => exact Kd.R_below HL9.out ((Below.refl _ _).alloc (Nat.le_refl _) _)); (case aR => exact lit1 (R := fun (x : Fa) cs => cs = x.list) (blk_new W9 (.cells (Fa.list (fx)).toArray 88 (0, 0))) rfl rfl); (case aB => exact H9.out.ig.b.alloc (by omega) _); (case aS => simp; omega); (case aL => exact hll.out); intro v9 w9 ho hb hgr hat; have HR9 := Aside0.mk ho; have HB9 := Aside0.mk hb; have HG9 := Aside0.mk hgr; clear ho hb hgr hat)
        go_wp2
        go_roundw
        case rel =>
          have hi2 := H9.out.ig
          have hg9 : ∀ k, u2.ownBlock = some k → w.heap.size ≤ k := HL9.out.1
          refine ⟨i + 1, rfl, by omega, ⟨?_⟩, ⟨?_⟩⟩
          · have e : ingX kind (nxt x) hour (i + 1) = y := by show (facG kind (ingX kind (nxt x) hour i) hour).2 = y; rw [HX.out.1, HX.out.2]
            rw [e]
            have hal : Below W9.heap.size W9 (W9.alloc (.cells (Fa.list fx).toArray 88 (0, 0))) := (Below.refl _ _).alloc (Nat.le_refl _) _
            have h2 := (HW.out.trans hi2).below hB hal
            exact ⟨⟨blk_grown h2.dice.blk HG9.out (fun e => by have := hg9 g e.symm; omega)⟩, Far.grown h2.f HG9.out (fun k hk => .inl (hg9 k hk)), HB9.out⟩
          · have e : ingL kind (nxt x) hour (i + 1) = ingL kind (nxt x) hour i ++ [fx] := by show _ ++ [(facG kind (ingX kind (nxt x) hour i) hour).1] = _; rw [HX.out.1, HX.out.2]
            rw [e]; exact HR9.out
        case measure => simp only [intOf]; omega
    · obtain rfl : i = n := by omega
      have dl : decide ((i : Int) < (i : Int)) = false := decide_eq_false (by omega)
      obtain ⟨A2, c2, e2⟩ := Kd.R_slice HL.out
      subst e2
      have hDS := IG.ds HD.out hg HW.out
      have hvf := HW.out.f.size
      have hf : Kd.R factK 88 wr B (okQ g d v) _ (ingL kind (nxt x) hour i) :=
        Kd.R_mono HL.out (fun k hk => ⟨⟨by omega, by omega⟩, fun e => by have := HV.out k e.symm; omega⟩)
      have hp := putS.calls B g d _ kind hour v xs ⟨1, 0, ingL kind (nxt x) hour i, false, []⟩ _ (.slice none 0 0) w0 wr hBd hg hDS (by omega) hf (Kd.R_nil _ _ _ _ _)
      have HP := Aside0.mk hp
      clear hp hf hDS
      go_wp2_with fail
      refine HP.out.mono ?_
      rintro e w9 ⟨rfl, hh⟩
      clear HP
      go_wp2
      go_end0
      exact ⟨rfl, hh⟩
end Dr
end Go.Proofs.Ytiokjjadpobciaa.P
