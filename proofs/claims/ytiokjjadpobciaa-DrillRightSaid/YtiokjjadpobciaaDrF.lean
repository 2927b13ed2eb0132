import Derived.Test.YtiokjjadpobciaaDrE
import Derived.Test.YtiokjjadpobciaaDrA
import Derived.Test.YtiokjjadpobciaaDrB
import Derived.Test.YtiokjjadpobciaaDrC
namespace Go.Proofs.Ytiokjjadpobciaa.P
open Go.RowKit Go.Conc Go.Proofs.YtiokjjadpobciaaW.PrintWords Go.Proofs.YtiokjjadpobciaaW.PrintLast Go.Proofs.YtiokjjadpobciaaW.PrintMore
attribute [local go_sem] max2_int min2_int max_two min_two max_three min_three max_four min_four
set_option linter.unusedVariables false
set_option linter.unusedSimpArgs false
namespace Dr
open Ln
/-- A step that is right for two dimensions. -/
def SOk (x : Sx) : Prop :=
  (x.k = 1 ∧ x.n = 0 ∧ x.q = false ∧ x.fl = [] ∧ (1 ≤ x.fs.length ∧ x.fs.length ≤ 50) ∧ ∀ f ∈ x.fs, FOk f) ∨ (x.k = 2 ∧ x.n = 0 ∧ x.fs = [] ∧ x.q = true ∧ x.fl = []) ∨
  ((x.k = 4 ∨ x.k = 5 ∨ x.k = 7 ∨ x.k = 8) ∧ x.fs = [] ∧ x.q = false ∧ x.fl = []) ∨ (x.k = 9 ∧ x.n = 0 ∧ x.fs = [] ∧ x.q = false ∧ x.fl = []) ∨ (x.k = 6 ∧ x.n = 0 ∧ x.fs = [] ∧ x.q = false ∧ x.fl.length ≤ 1000)
/-- What bare leaves. -/
def BareC (k : Int) (bs : List Value) : Prop := ∃ (A : Option Addr) (c : Nat) (D : Option Addr) (e : Nat), bs = stepC ⟨k, 0, [], false, []⟩ (.slice A 0 c) (.slice D 0 e)
theorem bare.calls (x : Sx) (h : SOk x) (A D : Option Addr) (c e : Nat) (w : World) :
    Calls Try.prog 42 #[.agg (stepC x (.slice A x.fs.length c) (.slice D x.fl.length e)).toArray] w fun z w' => ∃ bs, z = .returned (.agg bs.toArray) ∧ BareC x.k bs ∧ Below w.heap.size w w' := by
  obtain ⟨k, n, fs, q, fl⟩ := x
  have h1 := stepC_one ⟨k, n, fs, q, fl⟩ A D fs.length fl.length c e
  rcases h with ⟨rfl, rfl, rfl, rfl, -, -⟩ | ⟨rfl, rfl, rfl, rfl, rfl⟩ | ⟨hk, rfl, rfl, rfl⟩ | ⟨rfl, rfl, rfl, rfl, rfl⟩ | ⟨rfl, rfl, rfl, rfl, -⟩
  · exact (bare1.calls _ _ w rfl h1 rfl rfl).mono fun z w' hz => ⟨_, hz.1, ⟨none, 0, D, e, rfl⟩, hz.2⟩
  · exact (bare2.calls _ w rfl h1 rfl).mono fun z w' hz => ⟨_, hz.1, ⟨A, c, D, e, rfl⟩, hz.2⟩
  · rcases hk with rfl | rfl | rfl | rfl
    · exact (bare4.calls _ _ w rfl h1 rfl rfl).mono fun z w' hz => ⟨_, hz.1, ⟨A, c, D, e, rfl⟩, hz.2⟩
    · exact (bare5.calls _ _ w rfl h1 rfl rfl).mono fun z w' hz => ⟨_, hz.1, ⟨A, c, D, e, rfl⟩, hz.2⟩
    · exact (bare7.calls _ _ w rfl h1 rfl rfl).mono fun z w' hz => ⟨_, hz.1, ⟨A, c, D, e, rfl⟩, hz.2⟩
    · exact (bare8.calls _ _ w rfl h1 rfl rfl).mono fun z w' hz => ⟨_, hz.1, ⟨A, c, D, e, rfl⟩, hz.2⟩
  · exact (bare9.calls _ w rfl h1 rfl).mono fun z w' hz => ⟨_, hz.1, ⟨A, c, D, e, rfl⟩, hz.2⟩
  · exact (bare6.calls _ _ w rfl h1 rfl rfl).mono fun z w' hz => ⟨_, hz.1, ⟨A, c, none, 0, rfl⟩, hz.2⟩
theorem BareC.len {k : Int} {bs : List Value} (h : BareC k bs) : bs.length = 27 := by obtain ⟨A, c, D, e, rfl⟩ := h; rfl
theorem BareC.one {k : Int} {bs : List Value} (h : BareC k bs) : ∀ u ∈ bs, u.oneCell' = true := by obtain ⟨A, c, D, e, rfl⟩ := h; exact stepC_one _ _ _ 0 0 _ _
theorem C_nil {α : Type} (d : Kd α) (w : World) (A : Option Addr) : d.C w A 0 [] := by
  unfold Kd.C ReadsRow
  exact ⟨rfl, by omega, fun h => absurd h (by omega)⟩
theorem BareC.row {k : Int} {bs : List Value} (h : BareC k bs) {W : World} {g : Nat} {t : Nat} (hb : W.heap[g]? = some (.cells bs.toArray t (0, 0))) : RowS W g [⟨k, 0, [], false, []⟩] := by
  obtain ⟨A, c, D, e, rfl⟩ := h
  intro i hi
  obtain rfl : i = 0 := by simpa using hi
  exact ⟨A, c, D, e, C_nil _ _ _, C_nil _ _ _, fun j v hj => by rw [blk_cell hb]; simpa using hj⟩
set_option maxRecDepth 100000 in
theorem bs27 (w : World) (cs : List Value) (hl : cs.length = 27) : (Instr.buildSlice 23 1 #[(0, .agg cs.toArray)]).run Try.prog w = .ok (.slice (some ⟨w.heap.size, 0, none⟩) 1 1) (w.alloc (.cells cs.toArray 66 (0, 0))) := by
  match cs, hl with
  | [c0, c1, c2, c3, c4, c5, c6, c7, c8, c9, c10, c11, c12, c13, c14, c15, c16, c17, c18, c19, c20, c21, c22, c23, c24, c25, c26], _ =>
    go_simp
theorem wpList_load_want {P : Program} {ops : Array Oper} {rest : List Oper} {op : Oper} {a : Act} {w : World} {Q : Exit → Act → World → Prop} (ty : TypeId) (x : Operand) (ho : op.op = .load ty x)
    (b o : Nat) (hx : a.eval x = .pointer (some ⟨b, o, none⟩)) (hgd : Region.wanted op (yielded ops a.tmps) = true) (cs : List Value) (d : TypeDesc) (hc : w.rangeAt b o cs)
    (hu : P.underlying ty = some d) (hd : d.isRow = true) (hi : (P.info? ty).map (·.size) = some cs.length)
    (h : wpList P ops Q rest (a.put op.dst (.agg cs.toArray)) w) : wpList P ops Q (op :: rest) a w :=
  BigFrame.wpList_want hgd fun _ hK => wp_load_mid ty x ho b o hx cs d hc hu hd hi (hK _ _ h)
theorem wpList_buildSlice_one {P : Program} {ops : Array Oper} {rest : List Oper} {op : Oper} {a : Act} {w : World} {Q : Exit → Act → World → Prop} (t n : Nat) (x : Operand) (ho : op.op = .buildSlice t n #[(0, x)]) (u : Value) (hx : a.eval x = u) (hgd : Region.wanted op (yielded ops a.tmps) = true)
    {w' : World} {v : Value} (hr : (Instr.buildSlice t n #[(0, u)]).run P w = .ok v w') (h : wpList P ops Q rest (a.put op.dst v) w') : wpList P ops Q (op :: rest) a w :=
  BigFrame.wpList_want hgd fun _ hK => by
    unfold Oper.wp execOp
    simp only [ho, List.map_toArray, List.map_cons, List.map_nil, hx, Sem.run_bind, Result.andThen_ok, hr]
    exact hK _ _ h
theorem bsOne {P : Program} {op : Oper} {a : Act} {w w' : World} {v : Value} (t n : Nat) (x : Operand) (ho : op.op = .buildSlice t n #[(0, x)]) (u : Value) (hx : a.eval x = u) (hr : (Instr.buildSlice t n #[(0, u)]).run P w = .ok v w') :
    (execOp a.eval op).run P w = .ok (.value v) w' := by
  unfold execOp
  simp only [ho, List.map_toArray, List.map_cons, List.map_nil, hx, Sem.run_bind, Sem.run_pure, Result.andThen_ok, hr]
/-- A step's cells of the one kind. -/
def kindC (k : Int) : List Value := stepC ⟨k, 0, [], false, []⟩ (.slice none 0 0) (.slice none 0 0)
theorem kindC_bare (k : Int) : BareC k (kindC k) := ⟨none, 0, none, 0, rfl⟩
/-- The two rows of one bare step, in whatever order they were made. -/
structure TwoR (k : Int) (W w' : World) (p q : Nat) : Prop where
  b : Below W.heap.size W w'
  lp : p < w'.heap.size
  lq : q < w'.heap.size
  rp : RowS w' p [⟨k, 0, [], false, []⟩]
  rq : RowS w' q [⟨k, 0, [], false, []⟩]
theorem TwoR.one {k : Int} {bs : List Value} (h : BareC k bs) (W : World) : TwoR k W ((W.alloc (.cells bs.toArray 66 (0, 0))).alloc (.cells (kindC k).toArray 66 (0, 0))) W.heap.size (W.heap.size + 1) :=
  ⟨((Below.refl _ W).alloc (Nat.le_refl _) _).alloc (by simp) _, by simp; omega, by simp, h.row (blk_alloc (blk_new W _) _), (kindC_bare k).row (two_new _ _ _)⟩
theorem TwoR.two {k : Int} {bs : List Value} (h : BareC k bs) (W : World) : TwoR k W ((W.alloc (.cells (kindC k).toArray 66 (0, 0))).alloc (.cells bs.toArray 66 (0, 0))) (W.heap.size + 1) W.heap.size :=
  ⟨((Below.refl _ W).alloc (Nat.le_refl _) _).alloc (by simp) _, by simp, by simp; omega, h.row (two_new _ _ _), (kindC_bare k).row (blk_alloc (blk_new W _) _)⟩
theorem short1 (k : Int) : short [⟨k, 0, [], false, []⟩] := fun x hx => by
  obtain rfl := List.mem_singleton.mp hx
  exact ⟨Nat.zero_le _, Nat.zero_le _⟩
def rgt.T2 : Bool × List (List Nat × List Nat) := (true, [([], []), ([0], [0]), ([1], [1]), ([2], [2]), ([3], [3]), ([4, 3], [3, 4]), ([5, 3], [3, 5]), ([3, 6], [3, 6]), ([7, 3], [7]), ([8], [8]), ([9, 8], [8, 9]), ([8], [8]), ([11, 8], [8, 11]), ([12, 8], [8, 12]), ([13, 8], [8, 13]), ([10, 14, 8, 8], [8, 10, 14]), ([15, 8], [8, 15]), ([8, 16], [8, 16])])
def rgt.B2 : List Nat := [0, 1, 3, 7, 15, 31, 63, 127, 255, 511, 1023, 511, 2559, 6655, 14847, 32767, 65535, 131071]
theorem rgt.tab2 : rtab .any (opsOf Try.f24 2) = rgt.T2 := by kernel_rfl
theorem rgt.bits2 : waitsOk rgt.T2.2 rgt.B2 = true := by kernel_rfl
set_option maxHeartbeats 8000000 in
set_option maxRecDepth 100000 in
theorem rightO.calls (x : Sx) (h : SOk x) (A D : Option Addr) (c e : Nat) (w : World) (hk : x.k ≠ 1 ∧ x.k ≠ 2 ∧ x.k ≠ 3) :
    Calls Try.prog 24 #[.agg (stepC x (.slice A x.fs.length c) (.slice D x.fl.length e)).toArray, .int .i64 2] w fun z w' => z = .returned (.bool true) ∧ Below w.heap.size w w' := by
  have HBR := Aside0.mk (bare.calls x h A D c e)
  have hl := stepC_len x (.slice A x.fs.length c) (.slice D x.fl.length e)
  have h1 := stepC_one x A D x.fs.length x.fl.length c e
  have h0 : (stepC x (.slice A x.fs.length c) (.slice D x.fl.length e))[0]? = some (.int .i64 x.k) := rfl
  have h2 : (stepC x (.slice A x.fs.length c) (.slice D x.fl.length e))[2]? = some (.slice A x.fs.length c) := rfl
  have h26 : (stepC x (.slice A x.fs.length c) (.slice D x.fl.length e))[26]? = some (.slice D x.fl.length e) := by cases x; rfl
  have hmid : ∀ j : Nat, j < 14 → (stepC x (.slice A x.fs.length c) (.slice D x.fl.length e))[3 + j]? = ((midL x.q).take 14)[j]? := by
    intro j hj
    obtain ⟨k, n, fs, q, fl⟩ := x
    match j, hj with
    | 0, _ | 1, _ | 2, _ | 3, _ | 4, _ | 5, _ | 6, _ | 7, _ | 8, _ | 9, _ | 10, _ | 11, _ | 12, _ | 13, _ => rfl
  have e1 : decide (x.k < 1) = false := decide_eq_false (by have := h; unfold SOk at this; omega)
  have e9 : decide (x.k > 9) = false := decide_eq_false (by have := h; unfold SOk at this; omega)
  have e9' : decide (9 < x.k) = false := decide_eq_false (by have := h; unfold SOk at this; omega)
  have f1 : (x.k == 1) = false := beq_eq_false_iff_ne.mpr hk.1
  have f2 : (x.k == 2) = false := beq_eq_false_iff_ne.mpr hk.2.1
  have f3 : (x.k == 3) = false := beq_eq_false_iff_ne.mpr hk.2.2
  have fl : decide ((x.fl.length : Int) ≤ 1000) = true := decide_eq_true (by have := h; unfold SOk at this; rcases this with h | h | h | h | h <;> simp [h] <;> omega)
  have HM := Aside0.mk hmid
  have H26 := Aside0.mk h26
  have H2 := Aside0.mk h2
  clear hmid h26 h2
  clear hk
  obtain ⟨k, hk⟩ : ∃ k, k = x.k := ⟨_, rfl⟩
  rw [← hk] at e1 e9 e9' h0 HBR f1 f2 f3
  have HK := Aside0.mk hk
  clear hk
  obtain ⟨cs, hcs⟩ : ∃ cs, cs = stepC x (.slice A x.fs.length c) (.slice D x.fl.length e) := ⟨_, rfl⟩
  rw [← hcs] at hl h1 h0 HM H26 H2 ⊢
  have HBRc := Aside0.mk (show ∀ W : World, Calls Try.prog 42 #[.agg cs.toArray] W fun z w' => ∃ bs, z = .returned (.agg bs.toArray) ∧ BareC k bs ∧ Below W.heap.size W w' from fun W => by rw [hcs]; exact HBR.out W)
  clear hcs HBR
  have X := Aside0.mk (blk_new w (.cells cs.toArray 66 (0, 0)))
  have HB := Aside0.mk ((Below.refl w.heap.size w).alloc (Nat.le_refl _) (.cells cs.toArray 66 (0, 0)))
  have R0 := Aside0.mk (show (w.alloc (.cells cs.toArray 66 (0, 0))).rangeAt w.heap.size 0 cs from fun j v hj => by rw [blk_cell X.out]; simpa using hj)
  have L := Aside0.mk (show (Try.prog.info? 66).map (·.size) = some cs.length by rw [info66s, hl])
  have HL := Aside0.mk hl
  have H0 := Aside0.mk h0
  clear h1 hl h0 h
  go_enter Try.func24, Try.ntmps24
  go_wp2_with (first | (refine wpList_load_mid rfl 66 (.tmp 2) rfl w.heap.size 0 rfl cs _ R0.out Try.underlying66 rfl L.out ?_))
  refine (HBRc.out _).mono ?_
  rintro z w1 ⟨bs, rfl, hbs, hb⟩
  have hX1 := blk_below X.out (hb.mono (Nat.le_refl _))
  have HB1 := Aside0.mk (below_step HB.out hb)
  clear hb HB R0 X HBRc
  have X1 := Aside0.mk hX1
  have hlt : w.heap.size < w1.heap.size := blk_lt hX1
  have HLT := Aside0.mk hlt
  clear hX1 hlt
  have b27 := hbs.len
  have hz3 := run_storeCells_new (P := Try.prog) w1 66 #[.int .i64 0, .int .i64 0, .slice none 0 0, .int .i64 0, .int .i64 0, .bool false, .bool false, .bool false, .bool false, .bool false, .bool false, .bool false, .bool false, .string { data := #[] }, .string { data := #[] }, .string { data := #[] }, .string { data := #[] }, .int .i64 0, .int .i64 0, .int .i64 0, .int .i64 0, .int .i64 0, .int .i64 0, .int .i64 0, .int .i64 0, .int .i64 0, .slice none 0 0] bs.toArray (by rw [info66s]; simp [b27]) (by simp [b27]) (by simpa using hbs.one)
  have hbb := (Below.refl w1.heap.size w1).alloc (Nat.le_refl _) (.cells bs.toArray 66 (0, 0))
  have hbs1 := hbs
  clear hbs
  have HBS := Aside0.mk hbs1
  have B27 := Aside0.mk b27
  clear hbs1
  have XU := Aside0.mk (blk_below X1.out hbb)
  have YU := Aside0.mk (blk_new w1 (.cells bs.toArray 66 (0, 0)))
  have HU := Aside0.mk (below_step HB1.out hbb)
  clear hbb
  have x0 := blk_cell XU.out 0
  have HX0 := Aside0.mk x0
  simp only [List.getElem?_toArray] at x0
  rw [H0.out] at x0
  have x0' := blk_cell (blk_below XU.out ((Below.refl _ (w1.alloc (.cells bs.toArray 66 (0, 0)))).alloc (Nat.le_refl _) (.cells bs.toArray 66 (0, 0)))) 0
  simp only [List.getElem?_toArray] at x0'
  rw [H0.out] at x0'
  have b27 := B27.out
  have HBS2 := Aside0.mk (bs27 (w1.alloc (.cells bs.toArray 66 (0, 0))) bs B27.out)
  have R1 := Aside0.mk (show (w1.alloc (.cells bs.toArray 66 (0, 0))).rangeAt w1.heap.size 0 bs from fun j v hj => by rw [blk_cell YU.out]; simpa using hj)
  have L1 := Aside0.mk (show (Try.prog.info? 66).map (·.size) = some bs.length by rw [info66s, B27.out])
  have hT := TwoR.one HBS.out (w1.alloc (.cells bs.toArray 66 (0, 0)))
  rw [show (w1.alloc (.cells bs.toArray 66 (0, 0))).heap.size = w1.heap.size + 1 by simp] at hT
  have HT := Aside0.mk hT
  clear hT
  go_wp2_with (first | (refine wpList_load_want 66 (.tmp 5) rfl w1.heap.size 0 rfl (by first | rfl | kernel_rfl) bs _ R1.out Try.underlying66 rfl L1.out ?_) | (refine wpList_buildSlice_one 23 1 (.tmp 19) rfl (.agg bs.toArray) rfl (by first | rfl | kernel_rfl) HBS2.out ?_))
  refine (Same.calls (w1.heap.size + 1) (w1.heap.size + 1 + 1) 1 1 [⟨k, 0, [], false, []⟩] _ HT.out.lp HT.out.lq HT.out.rp HT.out.rq (by simp) (short1 k)).mono ?_
  rintro z w3 ⟨rfl, hb⟩
  have HB3 := Aside0.mk (below_step HU.out (below_step (HT.out.b.mono (Nat.le_refl _)) hb))
  have X3 := Aside0.mk (blk_below (blk_below XU.out HT.out.b) hb)
  clear hb HT XU YU HU X1 HB1 x0 x0' b27 hz3 HBS2 R1 L1 HBS B27 HX0 HLT L HL
  have y0 : w3.cell? ⟨w.heap.size, 0, none⟩ = some (.int .i64 k) := by rw [blk_cell X3.out]; simpa using H0.out
  have y26 : w3.cell? ⟨w.heap.size, 26, none⟩ = some (.slice D x.fl.length e) := by rw [blk_cell X3.out]; simpa using H26.out
  go_wp2
  go_ret
  exact ⟨rfl, HB3.out⟩

set_option maxHeartbeats 8000000 in
set_option maxRecDepth 100000 in
theorem rightF.calls (x : Sx) (h : SOk x) (A D : Option Addr) (c e : Nat) (w : World) (hk : x.k = 1) (hC : Kd.C factK w A x.fs.length x.fs) (hL : 1 ≤ x.fs.length ∧ x.fs.length ≤ 50) (hF : ∀ f ∈ x.fs, FOk f) :
    Calls Try.prog 24 #[.agg (stepC x (.slice A x.fs.length c) (.slice D x.fl.length e)).toArray, .int .i64 2] w fun z w' => z = .returned (.bool true) ∧ Below w.heap.size w w' := by
  have HBR := Aside0.mk (bare.calls x h A D c e)
  have hl := stepC_len x (.slice A x.fs.length c) (.slice D x.fl.length e)
  have h1 := stepC_one x A D x.fs.length x.fl.length c e
  have h0 : (stepC x (.slice A x.fs.length c) (.slice D x.fl.length e))[0]? = some (.int .i64 x.k) := rfl
  have h2 : (stepC x (.slice A x.fs.length c) (.slice D x.fl.length e))[2]? = some (.slice A x.fs.length c) := rfl
  have h26 : (stepC x (.slice A x.fs.length c) (.slice D x.fl.length e))[26]? = some (.slice D x.fl.length e) := by cases x; rfl
  have hmid : ∀ j : Nat, j < 14 → (stepC x (.slice A x.fs.length c) (.slice D x.fl.length e))[3 + j]? = ((midL x.q).take 14)[j]? := by
    intro j hj
    obtain ⟨k, n, fs, q, fl⟩ := x
    match j, hj with
    | 0, _ | 1, _ | 2, _ | 3, _ | 4, _ | 5, _ | 6, _ | 7, _ | 8, _ | 9, _ | 10, _ | 11, _ | 12, _ | 13, _ => rfl
  have e1 : decide (x.k < 1) = false := decide_eq_false (by omega)
  have e9 : decide (x.k > 9) = false := decide_eq_false (by omega)
  have e9' : decide (9 < x.k) = false := decide_eq_false (by omega)
  have f1 : (x.k == 1) = true := by rw [hk]; rfl
  have HM := Aside0.mk hmid
  have H26 := Aside0.mk h26
  have H2 := Aside0.mk h2
  clear hmid h26 h2
  clear hk
  have HCF := Aside0.mk hC
  have HLF := Aside0.mk hL
  have HFF := Aside0.mk hF
  clear hC hL hF
  obtain ⟨k, hk⟩ : ∃ k, k = x.k := ⟨_, rfl⟩
  rw [← hk] at e1 e9 e9' h0 HBR f1
  have HK := Aside0.mk hk
  clear hk
  obtain ⟨cs, hcs⟩ : ∃ cs, cs = stepC x (.slice A x.fs.length c) (.slice D x.fl.length e) := ⟨_, rfl⟩
  rw [← hcs] at hl h1 h0 HM H26 H2 ⊢
  have HBRc := Aside0.mk (show ∀ W : World, Calls Try.prog 42 #[.agg cs.toArray] W fun z w' => ∃ bs, z = .returned (.agg bs.toArray) ∧ BareC k bs ∧ Below W.heap.size W w' from fun W => by rw [hcs]; exact HBR.out W)
  clear hcs HBR
  have X := Aside0.mk (blk_new w (.cells cs.toArray 66 (0, 0)))
  have HB := Aside0.mk ((Below.refl w.heap.size w).alloc (Nat.le_refl _) (.cells cs.toArray 66 (0, 0)))
  have R0 := Aside0.mk (show (w.alloc (.cells cs.toArray 66 (0, 0))).rangeAt w.heap.size 0 cs from fun j v hj => by rw [blk_cell X.out]; simpa using hj)
  have L := Aside0.mk (show (Try.prog.info? 66).map (·.size) = some cs.length by rw [info66s, hl])
  have HL := Aside0.mk hl
  have H0 := Aside0.mk h0
  clear h1 hl h0 h
  go_enter Try.func24, Try.ntmps24
  go_wp2_with (first | (refine wpList_load_mid rfl 66 (.tmp 2) rfl w.heap.size 0 rfl cs _ R0.out Try.underlying66 rfl L.out ?_))
  refine (HBRc.out _).mono ?_
  rintro z w1 ⟨bs, rfl, hbs, hb⟩
  have hX1 := blk_below X.out (hb.mono (Nat.le_refl _))
  have HB1 := Aside0.mk (below_step HB.out hb)
  clear hb HB R0 X HBRc
  have X1 := Aside0.mk hX1
  have hlt : w.heap.size < w1.heap.size := blk_lt hX1
  have HLT := Aside0.mk hlt
  clear hX1 hlt
  have b27 := hbs.len
  have hz3 := run_storeCells_new (P := Try.prog) w1 66 #[.int .i64 0, .int .i64 0, .slice none 0 0, .int .i64 0, .int .i64 0, .bool false, .bool false, .bool false, .bool false, .bool false, .bool false, .bool false, .bool false, .string { data := #[] }, .string { data := #[] }, .string { data := #[] }, .string { data := #[] }, .int .i64 0, .int .i64 0, .int .i64 0, .int .i64 0, .int .i64 0, .int .i64 0, .int .i64 0, .int .i64 0, .int .i64 0, .slice none 0 0] bs.toArray (by rw [info66s]; simp [b27]) (by simp [b27]) (by simpa using hbs.one)
  have hbb := (Below.refl w1.heap.size w1).alloc (Nat.le_refl _) (.cells bs.toArray 66 (0, 0))
  have hbs1 := hbs
  clear hbs
  have HBS := Aside0.mk hbs1
  have B27 := Aside0.mk b27
  clear hbs1
  have XU := Aside0.mk (blk_below X1.out hbb)
  have YU := Aside0.mk (blk_new w1 (.cells bs.toArray 66 (0, 0)))
  have HU := Aside0.mk (below_step HB1.out hbb)
  clear hbb
  have x0 := blk_cell XU.out 0
  have HX0 := Aside0.mk x0
  simp only [List.getElem?_toArray] at x0
  rw [H0.out] at x0
  have x0' := blk_cell (blk_below XU.out ((Below.refl _ (w1.alloc (.cells bs.toArray 66 (0, 0)))).alloc (Nat.le_refl _) (.cells bs.toArray 66 (0, 0)))) 0
  simp only [List.getElem?_toArray] at x0'
  rw [H0.out] at x0'
  have b27 := B27.out
  have HBS2 := Aside0.mk (bs27 (w1.alloc (.cells bs.toArray 66 (0, 0))) bs B27.out)
  have R1 := Aside0.mk (show (w1.alloc (.cells bs.toArray 66 (0, 0))).rangeAt w1.heap.size 0 bs from fun j v hj => by rw [blk_cell YU.out]; simpa using hj)
  have L1 := Aside0.mk (show (Try.prog.info? 66).map (·.size) = some bs.length by rw [info66s, B27.out])
  have hT := TwoR.one HBS.out (w1.alloc (.cells bs.toArray 66 (0, 0)))
  rw [show (w1.alloc (.cells bs.toArray 66 (0, 0))).heap.size = w1.heap.size + 1 by simp] at hT
  have HT := Aside0.mk hT
  clear hT
  go_wp2_with (first | (refine wpList_load_want 66 (.tmp 5) rfl w1.heap.size 0 rfl (by first | rfl | kernel_rfl) bs _ R1.out Try.underlying66 rfl L1.out ?_) | (refine wpList_buildSlice_one 23 1 (.tmp 19) rfl (.agg bs.toArray) rfl (by first | rfl | kernel_rfl) HBS2.out ?_))
  refine (Same.calls (w1.heap.size + 1) (w1.heap.size + 1 + 1) 1 1 [⟨k, 0, [], false, []⟩] _ HT.out.lp HT.out.lq HT.out.rp HT.out.rq (by simp) (short1 k)).mono ?_
  rintro z w3 ⟨rfl, hb⟩
  have HB3 := Aside0.mk (below_step HU.out (below_step (HT.out.b.mono (Nat.le_refl _)) hb))
  have X3 := Aside0.mk (blk_below (blk_below XU.out HT.out.b) hb)
  clear hb HT XU YU HU X1 HB1 x0 x0' b27 hz3 HBS2 R1 L1 HBS B27 HX0 HLT L HL
  have y0 : w3.cell? ⟨w.heap.size, 0, none⟩ = some (.int .i64 k) := by rw [blk_cell X3.out]; simpa using H0.out
  have y2 : w3.cell? ⟨w.heap.size, 2, none⟩ = some (.slice A x.fs.length c) := by rw [blk_cell X3.out]; simpa using H2.out
  go_wp2_with fail
  refine (All.calls A c x.fs w3 (Kd.C_below HCF.out HB3.out) HLF.out HFF.out).mono ?_
  rintro z w4 ⟨rfl, hb⟩
  have HB4 := Aside0.mk (below_step HB3.out hb)
  clear hb y0 y2
  go_wp2
  go_ret
  exact ⟨rfl, HB4.out⟩

def qL : List Value := [.int .i64 0, .int .i64 16777217, .bool true, .bool false, .bool false, .bool false, .bool false, .bool false, .bool false, .bool false, .string { data := #[] }, .string { data := #[] }, .string { data := #[] }, .string { data := #[] }]
set_option maxHeartbeats 8000000 in
set_option maxRecDepth 100000 in
theorem rightQ.calls (x : Sx) (h : SOk x) (A D : Option Addr) (c e : Nat) (w : World) (hk : x.k = 2) (hq : x.q = true) :
    Calls Try.prog 24 #[.agg (stepC x (.slice A x.fs.length c) (.slice D x.fl.length e)).toArray, .int .i64 2] w fun z w' => z = .returned (.bool true) ∧ Below w.heap.size w w' := by
  have HBR := Aside0.mk (bare.calls x h A D c e)
  have hl := stepC_len x (.slice A x.fs.length c) (.slice D x.fl.length e)
  have h1 := stepC_one x A D x.fs.length x.fl.length c e
  have h0 : (stepC x (.slice A x.fs.length c) (.slice D x.fl.length e))[0]? = some (.int .i64 x.k) := rfl
  have h2 : (stepC x (.slice A x.fs.length c) (.slice D x.fl.length e))[2]? = some (.slice A x.fs.length c) := rfl
  have h26 : (stepC x (.slice A x.fs.length c) (.slice D x.fl.length e))[26]? = some (.slice D x.fl.length e) := by cases x; rfl
  have hmid : ∀ j : Nat, j < 14 → (stepC x (.slice A x.fs.length c) (.slice D x.fl.length e))[3 + j]? = ((midL x.q).take 14)[j]? := by
    intro j hj
    obtain ⟨k, n, fs, q, fl⟩ := x
    match j, hj with
    | 0, _ | 1, _ | 2, _ | 3, _ | 4, _ | 5, _ | 6, _ | 7, _ | 8, _ | 9, _ | 10, _ | 11, _ | 12, _ | 13, _ => rfl
  have e1 : decide (x.k < 1) = false := decide_eq_false (by omega)
  have e9 : decide (x.k > 9) = false := decide_eq_false (by omega)
  have e9' : decide (9 < x.k) = false := decide_eq_false (by omega)
  have f1 : (x.k == 1) = false := by rw [hk]; rfl
  have f2 : (x.k == 2) = true := by rw [hk]; rfl
  have HM := Aside0.mk hmid
  have H26 := Aside0.mk h26
  have H2 := Aside0.mk h2
  clear hmid h26 h2
  clear hk
  have HQQ := Aside0.mk hq
  clear hq
  obtain ⟨k, hk⟩ : ∃ k, k = x.k := ⟨_, rfl⟩
  rw [← hk] at e1 e9 e9' h0 HBR f1 f2
  have HK := Aside0.mk hk
  clear hk
  obtain ⟨cs, hcs⟩ : ∃ cs, cs = stepC x (.slice A x.fs.length c) (.slice D x.fl.length e) := ⟨_, rfl⟩
  rw [← hcs] at hl h1 h0 HM H26 H2 ⊢
  have HBRc := Aside0.mk (show ∀ W : World, Calls Try.prog 42 #[.agg cs.toArray] W fun z w' => ∃ bs, z = .returned (.agg bs.toArray) ∧ BareC k bs ∧ Below W.heap.size W w' from fun W => by rw [hcs]; exact HBR.out W)
  clear hcs HBR
  have X := Aside0.mk (blk_new w (.cells cs.toArray 66 (0, 0)))
  have HB := Aside0.mk ((Below.refl w.heap.size w).alloc (Nat.le_refl _) (.cells cs.toArray 66 (0, 0)))
  have R0 := Aside0.mk (show (w.alloc (.cells cs.toArray 66 (0, 0))).rangeAt w.heap.size 0 cs from fun j v hj => by rw [blk_cell X.out]; simpa using hj)
  have L := Aside0.mk (show (Try.prog.info? 66).map (·.size) = some cs.length by rw [info66s, hl])
  have HL := Aside0.mk hl
  have H0 := Aside0.mk h0
  clear h1 hl h0 h
  go_enter Try.func24, Try.ntmps24
  go_wp2_with (first | (refine wpList_load_mid rfl 66 (.tmp 2) rfl w.heap.size 0 rfl cs _ R0.out Try.underlying66 rfl L.out ?_))
  refine (HBRc.out _).mono ?_
  rintro z w1 ⟨bs, rfl, hbs, hb⟩
  have hX1 := blk_below X.out (hb.mono (Nat.le_refl _))
  have HB1 := Aside0.mk (below_step HB.out hb)
  clear hb HB R0 X HBRc
  have X1 := Aside0.mk hX1
  have hlt : w.heap.size < w1.heap.size := blk_lt hX1
  have HLT := Aside0.mk hlt
  clear hX1 hlt
  have b27 := hbs.len
  have hz3 := run_storeCells_new (P := Try.prog) w1 66 #[.int .i64 0, .int .i64 0, .slice none 0 0, .int .i64 0, .int .i64 0, .bool false, .bool false, .bool false, .bool false, .bool false, .bool false, .bool false, .bool false, .string { data := #[] }, .string { data := #[] }, .string { data := #[] }, .string { data := #[] }, .int .i64 0, .int .i64 0, .int .i64 0, .int .i64 0, .int .i64 0, .int .i64 0, .int .i64 0, .int .i64 0, .int .i64 0, .slice none 0 0] bs.toArray (by rw [info66s]; simp [b27]) (by simp [b27]) (by simpa using hbs.one)
  have hbb := (Below.refl w1.heap.size w1).alloc (Nat.le_refl _) (.cells bs.toArray 66 (0, 0))
  have hbs1 := hbs
  clear hbs
  have HBS := Aside0.mk hbs1
  have B27 := Aside0.mk b27
  clear hbs1
  have XU := Aside0.mk (blk_below X1.out hbb)
  have YU := Aside0.mk (blk_new w1 (.cells bs.toArray 66 (0, 0)))
  have HU := Aside0.mk (below_step HB1.out hbb)
  clear hbb
  have x0 := blk_cell XU.out 0
  have HX0 := Aside0.mk x0
  simp only [List.getElem?_toArray] at x0
  rw [H0.out] at x0
  have x0' := blk_cell (blk_below XU.out ((Below.refl _ (w1.alloc (.cells bs.toArray 66 (0, 0)))).alloc (Nat.le_refl _) (.cells bs.toArray 66 (0, 0)))) 0
  simp only [List.getElem?_toArray] at x0'
  rw [H0.out] at x0'
  have b27 := B27.out
  have HBS2 := Aside0.mk (bs27 (w1.alloc (.cells bs.toArray 66 (0, 0))) bs B27.out)
  have R1 := Aside0.mk (show (w1.alloc (.cells bs.toArray 66 (0, 0))).rangeAt w1.heap.size 0 bs from fun j v hj => by rw [blk_cell YU.out]; simpa using hj)
  have L1 := Aside0.mk (show (Try.prog.info? 66).map (·.size) = some bs.length by rw [info66s, B27.out])
  have hT := TwoR.one HBS.out (w1.alloc (.cells bs.toArray 66 (0, 0)))
  rw [show (w1.alloc (.cells bs.toArray 66 (0, 0))).heap.size = w1.heap.size + 1 by simp] at hT
  have HT := Aside0.mk hT
  clear hT
  go_wp2_with (first | (refine wpList_load_want 66 (.tmp 5) rfl w1.heap.size 0 rfl (by first | rfl | kernel_rfl) bs _ R1.out Try.underlying66 rfl L1.out ?_) | (refine wpList_buildSlice_one 23 1 (.tmp 19) rfl (.agg bs.toArray) rfl (by first | rfl | kernel_rfl) HBS2.out ?_))
  refine (Same.calls (w1.heap.size + 1) (w1.heap.size + 1 + 1) 1 1 [⟨k, 0, [], false, []⟩] _ HT.out.lp HT.out.lq HT.out.rp HT.out.rq (by simp) (short1 k)).mono ?_
  rintro z w3 ⟨rfl, hb⟩
  have HB3 := Aside0.mk (below_step HU.out (below_step (HT.out.b.mono (Nat.le_refl _)) hb))
  have X3 := Aside0.mk (blk_below (blk_below XU.out HT.out.b) hb)
  clear hb HT XU YU HU X1 HB1 x0 x0' b27 hz3 HBS2 R1 L1 HBS B27 HX0 HLT L HL
  have y0 : w3.cell? ⟨w.heap.size, 0, none⟩ = some (.int .i64 k) := by rw [blk_cell X3.out]; simpa using H0.out
  have RQ := Aside0.mk (show w3.rangeAt w.heap.size 3 qL from fun j v hj => by
    rw [blk_cell X3.out, List.getElem?_toArray]
    have hj14 : j < 14 := (List.getElem?_eq_some_iff.1 hj).1
    rw [HM.out j hj14, HQQ.out]
    exact hj)
  have L61 := Aside0.mk (show (Try.prog.info? 61).map (·.size) = some qL.length by kernel_rfl)
  go_wp2_with (first | (refine wpList_load_mid rfl 61 (.tmp 43) rfl w.heap.size 3 rfl qL _ RQ.out Try.underlying61 rfl L61.out ?_))
  refine (QCheck.calls w3).mono ?_
  rintro z w4 ⟨rfl, hb⟩
  have HB4 := Aside0.mk (below_step HB3.out hb)
  clear hb y0
  go_wp2
  go_ret
  exact ⟨rfl, HB4.out⟩

/-- A step that is right is told so. -/
theorem Right.calls (x : Sx) (h : SOk x) (A D : Option Addr) (c e : Nat) (w : World) (hC : Kd.C factK w A x.fs.length x.fs) :
    Calls Try.prog 24 #[.agg (stepC x (.slice A x.fs.length c) (.slice D x.fl.length e)).toArray, .int .i64 2] w fun z w' => z = .returned (.bool true) ∧ Below w.heap.size w w' := by
  have hh := h
  rcases hh with ⟨hk, _, _, _, hl, hf⟩ | ⟨hk, _, _, hq, _⟩ | hh | hh | hh
  · exact rightF.calls x h A D c e w hk hC hl hf
  · exact rightQ.calls x h A D c e w hk hq
  all_goals exact rightO.calls x h A D c e w (by omega)
end Dr
end Go.Proofs.Ytiokjjadpobciaa.P
