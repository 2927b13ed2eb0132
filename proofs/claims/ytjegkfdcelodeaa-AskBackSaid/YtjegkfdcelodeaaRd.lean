import Derived.Test.YtjegkfdcelodeaaPx0
import Derived.Test.YtjegkfdcelodeaaWr
namespace Go.Proofs.Ytjegkfdcelodeaa.P
open Go.RowKit Go.Proofs.YtjegkfdcelodeaaW.PrintWords Go.Proofs.YtjegkfdcelodeaaW.PrintLast Go.Proofs.YtjegkfdcelodeaaW.PrintMore
attribute [local go_sem] max2_int min2_int max_two min_two max_three min_three max_four min_four
set_option linter.unusedVariables false
set_option linter.unusedSimpArgs false
namespace Wr
section
variable {P : Program} {ops : Array Oper} {rest : List Oper} {o : Oper} {a : Act} {Q : Exit → Act → World → Prop}
theorem hat_string (w : World) (base : Nat) (t u ty e : TypeId) (i : TypeInfo) (ht : P.underlying t = some (.slice e)) (hu : P.underlying u = some .string) (hi : P.info? e = some i) (hz : i.zero = some (.int .u8 0))
    (hsize : i.size = 1) (hby : i.bytes = 1) (v : Value) (n : Nat) (xs : List Value) (hown : w.ownsRow base e 1 v n xs) (s : ByteArray)
    (hbytes : n + s.size ≤ 140737488355328) {v' : Value} {w' : World} (hr : (Builtin.append_ #[t, u] ty #[v, .string s]).run P w = .ok v' w') (hn : v' = .slice none 0 0 ↔ v = .slice none 0 0 ∧ s.size = 0) :
    v'.ownBlock = v.ownBlock ∨ ∃ b, v'.ownBlock = some b ∧ w.heap.size ≤ b := by
  have hxl : xs.length = n := by simpa using hown.1
  rcases hown.2 with ⟨rfl, rfl⟩ | ⟨g, cap, cur, rfl, hbg, hg, hnc, hcm, hcs, htake⟩
  · by_cases hm : s.size = 0
    · left; rw [hn.mpr ⟨rfl, hm⟩]
    · have h2 := run_append_nil_string (P := P) w t u ty e i (.int .u8 0) ht hu hi hz s (by omega) (by omega) (by rw [hby]; omega)
      rw [h2] at hr
      injection hr with hv _
      subst hv
      exact .inr ⟨w.heap.size, by simp [Value.ownBlock], Nat.le_refl _⟩
  · by_cases hroom : n + s.size ≤ cap
    · have hcs' : cur.size = cap := by simpa using hcs
      have h2 := Lib.run_append_room_string (P := P) w t u ty e i ht hu hi hsize g n cap cur hg s hroom (by omega)
      rw [h2] at hr
      injection hr with hv _
      subst hv
      exact .inl (by simp [Value.ownBlock])
    · have holds : ∀ j u, xs[j]? = some u → w.cell? ((⟨g, 0, none⟩ : Addr).add j) = some u := hown.cells (g := g) rfl
      have h2 := Lib.run_append_grow_string (P := P) w t u ty e i (.int .u8 0) ht hu hi hz ⟨g, 0, none⟩ n cap xs (by rw [hsize]; simpa using hxl) holds s (by omega) (by omega) (by rw [hby]; exact growslice_fits (by omega) (by omega))
      rw [h2] at hr
      injection hr with hv _
      subst hv
      exact .inr ⟨w.heap.size, by simp [Value.ownBlock], Nat.le_refl _⟩
theorem wp_append_str {w0 W : World} (base : Nat) (hgd : o.guard = none) (s x : Operand) (t u e : TypeId)
    (ho : o.op = .call { callee := .builtin .append, args := #[s, x], argTypes := #[t, u] })
    (ht : P.underlying t = some (.slice e)) (hu : P.underlying u = some .string) (hinfo : (P.info? e).map (fun i => (i.zero, i.size, i.bytes)) = some (some (.int .u8 0), 1, 1))
    (v : Value) (xs : List Int) (y : ByteArray) (ok : Nat → Prop) (hs : a.eval s = v) (hx : a.eval x = .string y) (hfresh : ∀ k, W.heap.size ≤ k → ok k)
    (HO : (Kd.int .u8).R e W base ok v xs) (HB : Below base w0 W) (hbase : base ≤ W.heap.size) (hl : xs.length + y.size ≤ 140737488355328)
    (h : ∀ v1 w1, (Kd.int .u8).R e w1 base ok v1 (xs ++ bytesOf y) → Below base w0 w1 → W.grownBy w1 v.ownBlock → (v1.ownBlock = v.ownBlock ∨ ∃ b, v1.ownBlock = some b ∧ W.heap.size ≤ b) → wpList P ops Q rest (a.put o.dst v1) w1) :
    wpList P ops Q (o :: rest) a W := by
  have hown := Kd.own_of_R HO
  obtain ⟨i0, hi, hzz⟩ := Option.map_eq_some_iff.1 hinfo
  simp only [Prod.mk.injEq] at hzz
  obtain ⟨hz0, hz1, hz2⟩ := hzz
  refine wpList_plain hgd fun K hK => ?_
  obtain ⟨v', w', hr, h2, h3, h4⟩ := Lib.run_append_own_string (P := P) W base t u o.type e i0 ht hu hi hz0 hz1 hz2 v xs.length _ hown y (by simp only [maxLen]; omega) hl hbase
  have hat := hat_string W base t u o.type e i0 ht hu hi hz0 hz1 hz2 v xs.length _ hown y hl hr h4
  unfold Oper.wp execOp
  simp only [ho, resolve, invoke, builtin, Sem.run_bind, Sem.run_pure, Result.andThen_ok, List.map_toArray, List.map_cons, List.map_nil, hs, hx, hr]
  refine hK _ _ (h v' w' (Kd.R_of_own ?_ ?_) (HB.grown h3 hbase (fun k hk => Kd.R_base HO k hk)) h3 hat)
  · have hl2 : (xs ++ bytesOf y).length = xs.length + y.size := by rw [List.length_append, bytesOf_length]
    have hc : encs (Value.int .u8) (xs ++ bytesOf y) = encs (Value.int .u8) xs ++ Lib.strCells y := by
      simp [encs, bytesOf, Lib.strCells]
    rw [hl2, hc]; exact h2
  · intro k hk
    rcases hat with e1 | ⟨b, e1, hb⟩
    · exact HO.1 k (by rw [← e1]; exact hk)
    · rw [e1] at hk; injection hk with hk; subst hk; exact hfresh _ hb
end
set_option maxHeartbeats 8000000 in
set_option maxRecDepth 100000 in
theorem Writer_Text.calls (B g : Nat) (v : Value) (l : List Int) (s : ByteArray) (w0 w : World) (hs : s.size ≤ 100000) (hl : l.length ≤ 100000) (hB : Below B w0 w) (hg : B ≤ g) (hW : WrS B g v l w) :
    Calls Try.prog 67 #[.pointer (some ⟨g, 0, none⟩), .string s] w (WPost B g v (l ++ numB s.size ++ bytesOf s) w0 w) := by
  have HW := Aside0.mk hW
  have HB := Aside0.mk hB
  clear hW hB
  have hsz : IntKind.u64.wrap (s.size : Int) = s.size := by rw [wrap_u64]; omega
  have hnl := numB_len (s.size : Int) 10 (by omega) (by omega)
  go_enter Try.func67, Try.ntmps67
  go_wp2_with fail
  try rw [hsz]
  refine (Writer_Num.calls B g v l (s.size : Int) w0 w (by omega) (by omega) (by omega) HB.out hg HW.out).mono ?_
  clear HW HB
  rintro e w' ⟨v1, rfl, hw1, hb1, hf1, hv1⟩
  have HW := Aside0.mk hw1
  have HB := Aside0.mk hb1
  have HF := Aside0.mk hf1
  have HV := Aside0.mk hv1
  have hc := hw1.cell
  have hf := hw1.free
  have HS := Aside0.mk (blk_lt hw1.blk)
  clear hw1 hb1 hf1 hv1
  go_wp2_with ((with_reducible refine gate_builtin (b := .append) (xs := #[.tmp 15, .tmp 16]) rfl ?_); at_builtin; refine wp_append_str (w0 := w0) B rfl (.tmp 15) (.tmp 16) 32 9 5 rfl Try.underlying32 Try.underlying9 info5 v1 (l ++ numB (s.size : Int)) s (fun k => k ≠ g) rfl rfl ?aF ?aO ?aB ?aS ?aL ?_; (case aB => exact HB.out); (case aF => intro k hk e; have := HS.out; omega); (case aO => exact HW.out.row); (case aS => have := HS.out; omega); (case aL => simp; omega); intro v2 w2 ho hb hgr hat; obtain ⟨A2, c2, rfl⟩ := Kd.R_slice ho; have HO := Aside0.mk ho; have HB2 := Aside0.mk hb; have HG := Aside0.mk hgr; have HA := Aside0.mk hat; have hc2 := blk_cell (blk_grown HW.out.blk hgr (fun e => HW.out.row.1 g e.symm rfl)) 0; have hf2 := blk_frozen (blk_grown HW.out.blk hgr (fun e => HW.out.row.1 g e.symm rfl)) 0; clear ho hb hgr hat)
  have HT := Wr_step hg HS HW HF HV HO HB2 HG HA
  simp only [List.length_append, Nat.add_assoc] at HT
  go_ret
  exact ⟨_, rfl, HT.1.out, HT.2.1.out, HT.2.2.1.out, HT.2.2.2.out⟩
end Wr
end Go.Proofs.Ytjegkfdcelodeaa.P

namespace Go.Proofs.Ytjegkfdcelodeaa.P
open Go.RowKit Go.Proofs.YtjegkfdcelodeaaW.PrintWords Go.Proofs.YtjegkfdcelodeaaW.PrintLast Go.Proofs.YtjegkfdcelodeaaW.PrintMore
attribute [local go_sem] max2_int min2_int max_two min_two max_three min_three max_four min_four
set_option linter.unusedVariables false
set_option linter.unusedSimpArgs false
namespace Wr
/-- A reader at g: the bytes that are left, and the fault. -/
structure RdS (g : Nat) (A : Option Addr) (c : Nat) (l : List Int) (f : Int) (W : World) : Prop where
  blk : W.heap[g]? = some (.cells #[.slice A l.length c, .int .i64 f] 106 (0, 0))
  cap : l.length ≤ c
  row : Kd.C (Kd.int .u8) W A l.length l
  under : ∀ ad, A = some ad → 0 < l.length → ad.block < g
theorem RdS.away {g : Nat} {A : Option Addr} {c : Nat} {l : List Int} {f : Int} {W : World} (h : RdS g A c l f W) : ∀ ad, A = some ad → 0 < l.length → ad.block ≠ g := fun ad e hp => Nat.ne_of_lt (h.under ad e hp)
def RdP (g : Nat) (l : List Int) (f : Int) (W : World) : Prop := ∃ A c, RdS g A c l f W
theorem RdS.c0 {g : Nat} {A : Option Addr} {c : Nat} {l : List Int} {f : Int} {W : World} (h : RdS g A c l f W) : W.cell? ⟨g, 0, none⟩ = some (.slice A l.length c) := blk_cell h.blk 0
theorem RdS.c1 {g : Nat} {A : Option Addr} {c : Nat} {l : List Int} {f : Int} {W : World} (h : RdS g A c l f W) : W.cell? ⟨g, 1, none⟩ = some (.int .i64 f) := blk_cell h.blk 1
theorem RdS.f0 {g : Nat} {A : Option Addr} {c : Nat} {l : List Int} {f : Int} {W : World} (h : RdS g A c l f W) : W.frozen? ⟨g, 0, none⟩ = false := blk_frozen h.blk 0
theorem RdS.f1 {g : Nat} {A : Option Addr} {c : Nat} {l : List Int} {f : Int} {W : World} (h : RdS g A c l f W) : W.frozen? ⟨g, 1, none⟩ = false := blk_frozen h.blk 1
theorem C_set {g : Nat} {A : Option Addr} {l : List Int} {W : World} (h : Kd.C (Kd.int .u8) W A l.length l) (ha : ∀ ad, A = some ad → 0 < l.length → ad.block ≠ g) (j : Nat) (u : Value) : Kd.C (Kd.int .u8) (W.setCell ⟨g, j, none⟩ u) A l.length l :=
  Kd.C_keep 0 h (KeepBut.set_ (KeepBut.refl W g none) j u) ha
/-- The fault turned. -/
theorem RdS.setF {g : Nat} {A : Option Addr} {c : Nat} {l : List Int} {f : Int} {W : World} (h : RdS g A c l f W) (f2 : Int) : RdS g A c l f2 (W.setCell ⟨g, 1, none⟩ (.int .i64 f2)) :=
  ⟨blk_put h.blk 1 _ rfl, h.cap, C_set h.row h.away 1 _, h.under⟩
/-- The bytes cut. -/
theorem RdS.cut {g : Nat} {A : Option Addr} {c : Nat} {l : List Int} {f : Int} {W : World} (h : RdS g A c l f W) (m : Nat) (hm : m ≤ l.length) :
    RdS g (if c = m then A else A.map (·.add (m * 1))) (c - m) (l.drop m) f (W.setCell ⟨g, 0, none⟩ (.slice (if c = m then A else A.map (·.add (m * 1))) (l.length - m) (c - m))) := by
  have ha : ∀ ad, (if c = m then A else A.map (·.add (m * 1))) = some ad → 0 < (l.drop m).length → ad.block < g := by
    intro ad e hp
    rw [List.length_drop] at hp
    split at e
    · exact h.under ad e (by omega)
    · obtain ⟨b, hb, rfl⟩ := Option.map_eq_some_iff.mp e
      have := h.under b hb (by omega)
      unfold Addr.add; split <;> simpa using this
  refine ⟨?_, by rw [List.length_drop]; have := h.cap; omega, ?_, ha⟩
  · rw [List.length_drop]; exact blk_put h.blk 0 _ rfl
  · exact C_set (Kd.C_drop h.row hm h.cap) (fun ad e hp => Nat.ne_of_lt (ha ad e hp)) 0 _
/-- What take leaves. -/
def TakePost (B g : Nat) (l : List Int) (f n : Int) (w0 w : World) (e : Ending) (w' : World) : Prop :=
  Below B w0 w' ∧ Far w w' (fun k => k = g) ∧
  (if f = 0 ∧ n ≤ l.length then (∃ A1 c1, e = .returned (.tuple #[.slice A1 n.toNat c1, .bool true]) ∧ Kd.C (Kd.int .u8) w' A1 n.toNat (l.take n.toNat) ∧ (∀ ad, A1 = some ad → 0 < n.toNat → ad.block ≠ g)) ∧ RdP g (l.drop n.toNat) 0 w'
   else e = .returned (.tuple #[.slice none 0 0, .bool false]) ∧ RdP g l (if f = 0 then 3 else f) w')
set_option maxHeartbeats 8000000 in
set_option maxRecDepth 100000 in
theorem take_nil.calls (n : Int) (w : World) :
    Calls Try.prog 72 #[.pointer none, .int .u64 n] w fun e w' => e = .returned (.tuple #[.slice none 0 0, .bool false]) ∧ Below w.heap.size w w' := by
  have HB := Aside0.mk (Below.refl w.heap.size w)
  go_enter Try.func72, Try.ntmps72
  go_wp2
  go_ret2
  exact ⟨rfl, HB.out⟩
theorem info5i : ∃ i, Try.prog.info? 5 = some i ∧ i.size = 1 := by
  have h := info5
  obtain ⟨i, hi, hz⟩ := Option.map_eq_some_iff.1 h
  simp only [Prod.mk.injEq] at hz
  exact ⟨i, hi, hz.2.1⟩
set_option maxHeartbeats 8000000 in
set_option maxRecDepth 100000 in
theorem take.calls (B g : Nat) (l : List Int) (f n : Int) (w0 w : World) (h0 : 0 ≤ n) (h1 : n < 18446744073709551616) (hB : Below B w0 w) (hg : B ≤ g) (hR : RdP g l f w) :
    Calls Try.prog 72 #[.pointer (some ⟨g, 0, none⟩), .int .u64 n] w (TakePost B g l f n w0 w) := by
  obtain ⟨A, c, hR⟩ := hR
  have hmax := Kd.C_max hR.row
  have hw : IntKind.u64.wrap (l.length : Int) = l.length := by rw [wrap_u64]; omega
  have hc0 := hR.c0
  have hc1 := hR.c1
  have hf0 := hR.f0
  have hf1 := hR.f1
  have HR := Aside0.mk hR
  have HB := Aside0.mk hB
  clear hR hB
  by_cases cf : f = 0
  · subst cf
    by_cases cn : n ≤ l.length
    · have cnb : decide ((l.length : Int) < n) = false := decide_eq_false (by omega)
      obtain ⟨i5, hi5, hs5⟩ := info5i
      have hcut1 := cut_to (P := Try.prog) 32 5 .u64 Try.underlying32 hi5 A l.length c n h0 cn HR.out.cap
      have hcut2 := cut_from (P := Try.prog) 32 5 .u64 Try.underlying32 hi5 1 hs5 A l.length c n h0 cn
      obtain ⟨A2, hA2⟩ : ∃ A2, A2 = (if c = n.toNat then A else A.map (·.add (n.toNat * 1))) := ⟨_, rfl⟩
      rw [← hA2] at hcut2
      have hd := HR.out.cut n.toNat (by omega)
      rw [← hA2] at hd
      have HD := Aside0.mk hd
      clear hd hA2
      go_enter Try.func72, Try.ntmps72
      go_wp2
      go_ret2
      refine ⟨HB.out.setCell hg _, (Far.refl w (fun k => k = g)).setCell (p := ⟨g, 0, none⟩) (.inr rfl) _, ?_⟩
      rw [if_pos ⟨rfl, cn⟩]
      have ht := Kd.C_take HR.out.row (m := n.toNat) (by omega)
      have hl : (l.take n.toNat).length = n.toNat := by rw [List.length_take]; omega
      have ha : ∀ ad, A = some ad → 0 < (l.take n.toNat).length → ad.block ≠ g := fun ad e hp => HR.out.away ad e (by omega)
      have ht2 := C_set ht ha 0 (.slice A2 (l.length - n.toNat) (c - n.toNat))
      rw [hl] at ht2 ha
      exact ⟨⟨A, c, rfl, ht2, ha⟩, _, _, HD.out⟩
    · have cnb : decide ((l.length : Int) < n) = true := decide_eq_true (by omega)
      go_enter Try.func72, Try.ntmps72
      go_wp2
      go_ret2
      refine ⟨HB.out.setCell hg _, (Far.refl w (fun k => k = g)).setCell (p := ⟨g, 1, none⟩) (.inr rfl) _, ?_⟩
      rw [if_neg (by omega), if_pos rfl]
      exact ⟨rfl, _, _, HR.out.setF 3⟩
  · have cfb : (f != 0) = true := bne_iff_ne.mpr cf
    go_enter Try.func72, Try.ntmps72
    go_wp2
    go_ret2
    refine ⟨HB.out, Far.refl w _, ?_⟩
    rw [if_neg (by omega), if_neg cf]
    exact ⟨rfl, _, _, HR.out⟩
end Wr
end Go.Proofs.Ytjegkfdcelodeaa.P

namespace Go.Proofs.Ytjegkfdcelodeaa.P
open Go.RowKit Go.Proofs.YtjegkfdcelodeaaW.PrintWords Go.Proofs.YtjegkfdcelodeaaW.PrintLast Go.Proofs.YtjegkfdcelodeaaW.PrintMore
attribute [local go_sem] max2_int min2_int max_two min_two max_three min_three max_four min_four
set_option linter.unusedVariables false
set_option linter.unusedSimpArgs false
namespace Wr
set_option maxHeartbeats 8000000 in
set_option maxRecDepth 100000 in
theorem bad.calls (B g : Nat) (l : List Int) (f : Int) (w0 w : World) (hB : Below B w0 w) (hg : B ≤ g) (hR : RdP g l f w) :
    Calls Try.prog 73 #[.pointer (some ⟨g, 0, none⟩)] w fun e w' => e = .returned (.tuple #[]) ∧ RdP g l (if f = 0 then 4 else f) w' ∧ Below B w0 w' ∧ Far w w' (fun k => k = g) := by
  obtain ⟨A, c, hR⟩ := hR
  have hc0 := hR.c0
  have hc1 := hR.c1
  have hf0 := hR.f0
  have hf1 := hR.f1
  have HR := Aside0.mk hR
  have HB := Aside0.mk hB
  clear hR hB
  by_cases cf : f = 0
  · subst cf
    go_enter Try.func73, Try.ntmps73
    go_wp2
    go_end0
    exact ⟨rfl, ⟨_, _, HR.out.setF 4⟩, HB.out.setCell hg _, (Far.refl w (fun k => k = g)).setCell (p := ⟨g, 1, none⟩) (.inr rfl) _⟩
  · have cfb : (f == 0) = false := beq_eq_false_iff_ne.mpr cf
    go_enter Try.func73, Try.ntmps73
    go_wp2
    go_end0
    exact ⟨rfl, ⟨_, _, HR.out⟩, HB.out, Far.refl w _⟩
set_option maxHeartbeats 8000000 in
set_option maxRecDepth 100000 in
theorem bad_nil.calls (w : World) :
    Calls Try.prog 73 #[.pointer none] w fun e w' => e = .returned (.tuple #[]) ∧ Below w.heap.size w w' := by
  have HB := Aside0.mk (Below.refl w.heap.size w)
  go_enter Try.func73, Try.ntmps73
  go_wp2
  go_end0
  exact ⟨rfl, HB.out⟩
/-- What a number's groups say: its value, what is left, the fault. -/
def rdNum : Nat → Nat → Int → List Int → Int × List Int × Int
  | 0, _, _, l => (0, l, 4)
  | _ + 1, _, _, [] => (0, [], 3)
  | d + 1, i, n, c :: t => if i = 9 ∧ 1 < c % 128 then (0, t, 4) else if c < 128 ∧ c % 128 = 0 ∧ 0 < i then (0, t, 4) else if c < 128 then (n + c % 128 * 128 ^ i, t, 0) else rdNum d (i + 1) (n + c % 128 * 128 ^ i) t
theorem andnot128 (n : Int) (h0 : 0 ≤ n) (h1 : n < 256) : Go.bits .andNot .u8 n 128 = n % 128 := by
  have key : ∀ m : Fin 256, Go.bits .andNot .u8 (m.val : Int) 128 = (m.val : Int) % 128 := by decide +kernel
  have h := key ⟨n.toNat, by omega⟩
  have e : ((n.toNat : Nat) : Int) = n := by omega
  simp only [e] at h
  exact h
theorem or_nat (M D k : Nat) (hM : M < 2 ^ k) (hlt : D * 2 ^ k + M < 18446744073709551616) : Go.bits .or .u64 (M : Int) ((D * 2 ^ k : Nat) : Int) = ((M + D * 2 ^ k : Nat) : Int) := by
  simp only [Go.bits]
  rw [wrap_u64]
  show (((BitVec.ofInt 64 (M : Int) ||| BitVec.ofInt 64 ((D * 2 ^ k : Nat) : Int)).toNat : Nat) : Int) % 18446744073709551616 = _
  rw [BitVec.toNat_or, BitVec.toNat_ofInt, BitVec.toNat_ofInt]
  have e1 : ((M : Int) % ((2 ^ 64 : Nat) : Int)).toNat = M := by omega
  have e2 : (((D * 2 ^ k : Nat) : Int) % ((2 ^ 64 : Nat) : Int)).toNat = D * 2 ^ k := by
    generalize D * 2 ^ k = y at *
    omega
  rw [e1, e2, Nat.or_comm, Nat.mul_comm, ← Nat.two_pow_add_eq_or_of_lt hM]
  rw [Nat.mul_comm (2 ^ k) D]
  generalize D * 2 ^ k = y at *
  omega
theorem or_grp (i : Nat) (m d : Int) (hi : i < 10) (m0 : 0 ≤ m) (m1 : m < 128 ^ i) (d0 : 0 ≤ d) (d1 : d < 128) (d9 : i = 9 → d ≤ 1) : Go.bits .or .u64 m (IntKind.u64.wrap (d * 2 ^ (7 * i))) = m + d * 128 ^ i ∧ 0 ≤ m + d * 128 ^ i ∧ m + d * 128 ^ i < 128 ^ (i + 1) := by
  have hp : ((128 : Int) ^ i) = ((2 ^ (7 * i) : Nat) : Int) := by rw [Nat.pow_mul]; push_cast; rfl
  have hp2 : ((2 : Int) ^ (7 * i)) = ((2 ^ (7 * i) : Nat) : Int) := by push_cast; rfl
  have hb : (d + 1) * 128 ^ i ≤ 18446744073709551616 := by
    have : i = 0 ∨ i = 1 ∨ i = 2 ∨ i = 3 ∨ i = 4 ∨ i = 5 ∨ i = 6 ∨ i = 7 ∨ i = 8 ∨ i = 9 := by omega
    rcases this with h | h | h | h | h | h | h | h | h | h <;> subst h <;> simp at d9 ⊢ <;> omega
  have hs : (128 : Int) ^ (i + 1) = 128 * 128 ^ i := by rw [Int.pow_succ, Int.mul_comm]
  have h127 : d * 128 ^ i ≤ 127 * 128 ^ i := Int.mul_le_mul_of_nonneg_right (by omega) (by rw [hp]; omega)
  have hd0 : 0 ≤ d * 128 ^ i := Int.mul_nonneg d0 (by rw [hp]; omega)
  rw [Int.add_mul, Int.one_mul] at hb
  refine ⟨?_, by omega, by rw [hs]; omega⟩
  obtain ⟨M, rfl⟩ := Int.eq_ofNat_of_zero_le m0
  obtain ⟨D, rfl⟩ := Int.eq_ofNat_of_zero_le d0
  rw [hp2]
  rw [hp] at m1 hb hd0 ⊢
  have hcast : ((D : Int) * ((2 ^ (7 * i) : Nat) : Int)) = ((D * 2 ^ (7 * i) : Nat) : Int) := by push_cast; rfl
  rw [hcast] at hb hd0 ⊢
  have hM : M < 2 ^ (7 * i) := by omega
  have hlt : D * 2 ^ (7 * i) + M < 18446744073709551616 := by omega
  rw [wrap_u64, show (((D * 2 ^ (7 * i) : Nat) : Int)) % 18446744073709551616 = ((D * 2 ^ (7 * i) : Nat) : Int) by omega, or_nat M D (7 * i) hM hlt]
  omega
def RdR (B g : Nat) (r : Int × List Int × Int) (w0 w : World) (e : Ending) (w' : World) : Prop := e = .returned (.int .u64 r.1) ∧ RdP g r.2.1 r.2.2 w' ∧ Below B w0 w' ∧ Far w w' (fun k => k = g)
set_option maxHeartbeats 8000000 in
set_option maxRecDepth 100000 in
theorem Reader_Num.calls (B g : Nat) (l : List Int) (f : Int) (w0 w : World) (hl : ∀ x ∈ l, 0 ≤ x ∧ x < 256) (hB : Below B w0 w) (hg : B ≤ g) (hR : RdP g l f w) :
    Calls Try.prog 48 #[.pointer (some ⟨g, 0, none⟩)] w (RdR B g (if f = 0 then rdNum 10 0 0 l else (0, l, f)) w0 w) := by
  have hmf : ∀ (fn : Fn) (first cap : Array Value) (w : World), (Instr.makeFunc fn first cap).run Try.prog w = .ok (.func fn first cap) w := fun _ _ _ _ => rfl
  have HR := Aside0.mk hR
  have HB := Aside0.mk hB
  clear hR hB
  generalize hr : (if f = 0 then rdNum 10 0 0 l else (0, l, f)) = r
  have Hr := Aside0.mk hr
  clear hr
  go_enter Try.func48, Try.ntmps48
  go_wp2
  go_step3
  go_wp2
  go_step3
  go_wp2
  go_loopw [10, 2] (fun x10 x2 wr => ∃ (i : Nat) (m : Int) (l1 : List Int) (f1 : Int), x10 = .int .i64 i ∧ x2 = .int .u64 m ∧ i ≤ 10 ∧ 0 ≤ m ∧ m < 128 ^ i ∧ (∀ x ∈ l1, 0 ≤ x ∧ x < 256) ∧ (f1 = 0 ∨ i = 0) ∧ Aside0 ((if f1 = 0 then rdNum (10 - i) i m l1 else (0, l1, f1)) = r) ∧ Aside0 (RdP g l1 f1 wr) ∧ Aside0 (Below B w0 wr) ∧ Aside0 (Far w wr (fun k => k = g))) (fun x10 _ _ => 10 - (intOf x10).toNat)
  case atStart => exact ⟨0, 0, l, f, rfl, rfl, by omega, by omega, by decide, hl, .inr rfl, Hr, HR, HB, ⟨Far.refl _ _⟩⟩
  case round =>
    clear Hr HR HB
    obtain ⟨i, m, l1, f1, rfl, rfl, hi, m0, m1, hl1, hf1, HE, HR, HB, HF⟩ := hrel
    by_cases hlt : i < 10
    · have hltb : decide ((i : Int) < 10) = true := decide_eq_true (by omega)
      go_wp2_with fail
      refine (take.calls B g l1 f1 1 w0 wr (by omega) (by omega) HB.out hg HR.out).mono ?_
      rintro e w1 ⟨hb1, hf1', ht⟩
      have HB1 := Aside0.mk hb1
      have HF1 := Aside0.mk (HF.out.trans hf1' (fun _ _ h => h))
      clear hb1 hf1' HB HF HR
      have ht1 : (1 : Int).toNat = 1 := rfl
      rw [ht1] at ht
      by_cases hz : f1 = 0 ∧ (1 : Int) ≤ l1.length
      · rw [if_pos hz] at ht
        obtain ⟨⟨A1, c1, rfl, hC, -⟩, hR1⟩ := ht
        obtain ⟨rfl, hlen⟩ := hz
        match l1, hlen, hl1, hC, hR1, HE with
        | c :: t, _, hl1, hC, hR1, HE =>
        have hcb := hl1 c (by simp)
        have hl2 : ∀ x ∈ t, 0 ≤ x ∧ x < 256 := fun x hx => hl1 x (List.mem_cons_of_mem _ hx)
        obtain ⟨ad, rfl, hcell⟩ := Kd.at_int hC 0 (by omega) (by simp)
        have hcell2 : w1.cell? ad = some (.int .u8 c) := by simpa [rd, Addr.add] using hcell
        clear hcell
        have HR1 := Aside0.mk (show RdP g t 0 w1 from hR1)
        have hand := andnot128 c hcb.1 hcb.2
        have hE1 := HE.out
        rw [if_pos rfl, show 10 - i = (10 - (i + 1)) + 1 from by omega, rdNum] at hE1
        clear hC hR1 hl1 HE
        by_cases cA : i = 9 ∧ 1 < c % 128
        · rw [if_pos cA] at hE1
          have hE := Aside0.mk hE1
          obtain ⟨rfl, cA2⟩ := cA
          clear hE1
          have b1 : decide (1 < c % 128) = true := decide_eq_true cA2
          go_wp2_with fail
          refine (bad.calls B g t 0 w0 w1 HB1.out hg HR1.out).mono ?_
          rintro e w2 ⟨rfl, hR2, hb2, hF2⟩
          have HR2 := Aside0.mk (show RdP g t 4 w2 by simpa using hR2)
          have HB2 := Aside0.mk hb2
          have HF2 := Aside0.mk (HF1.out.trans hF2 (fun _ _ h => h))
          clear hR2 hb2 hF2
          go_wp2
          (try rw [Exit.noGoto_ret])
          go_ret
          have hr := hE.out
          subst hr
          exact ⟨rfl, HR2.out, HB2.out, HF2.out⟩
        · rw [if_neg cA] at hE1
          by_cases cB : c < 128 ∧ c % 128 = 0 ∧ 0 < i
          · rw [if_pos cB] at hE1
            have hE := Aside0.mk hE1
            clear hE1
            obtain ⟨cB1, cB2, cB3⟩ := cB
            have b2 : decide (c < 128) = true := decide_eq_true cB1
            have b3 : (c % 128 == 0) = true := beq_iff_eq.mpr cB2
            have b4 : decide (0 < (i : Int)) = true := decide_eq_true (by omega)
            by_cases c9 : i = 9
            · have b5 : ((i : Int) == 9) = true := beq_iff_eq.mpr (by omega)
              have b6 : decide (1 < c % 128) = false := decide_eq_false (by omega)
              go_wp2_with fail
              refine (bad.calls B g t 0 w0 w1 HB1.out hg HR1.out).mono ?_
              rintro e w2 ⟨rfl, hR2, hb2, hF2⟩
              have HR2 := Aside0.mk (show RdP g t 4 w2 by simpa using hR2)
              have HB2 := Aside0.mk hb2
              have HF2 := Aside0.mk (HF1.out.trans hF2 (fun _ _ h => h))
              clear hR2 hb2 hF2
              go_wp2
              (try rw [Exit.noGoto_ret])
              go_ret
              have hr := hE.out
              subst hr
              exact ⟨rfl, HR2.out, HB2.out, HF2.out⟩
            · have b5 : ((i : Int) == 9) = false := beq_eq_false_iff_ne.mpr (by omega)
              go_wp2_with fail
              refine (bad.calls B g t 0 w0 w1 HB1.out hg HR1.out).mono ?_
              rintro e w2 ⟨rfl, hR2, hb2, hF2⟩
              have HR2 := Aside0.mk (show RdP g t 4 w2 by simpa using hR2)
              have HB2 := Aside0.mk hb2
              have HF2 := Aside0.mk (HF1.out.trans hF2 (fun _ _ h => h))
              clear hR2 hb2 hF2
              go_wp2
              (try rw [Exit.noGoto_ret])
              go_ret
              have hr := hE.out
              subst hr
              exact ⟨rfl, HR2.out, HB2.out, HF2.out⟩
          · rw [if_neg cB] at hE1
            by_cases cC : c < 128
            · rw [if_pos cC] at hE1
              have hE := Aside0.mk hE1
              clear hE1
              have b2 : decide (c < 128) = true := decide_eq_true cC
              have hG := Aside0.mk (or_grp i m (c % 128) hlt m0 m1 (by omega) (by omega) (by omega))
              by_cases c9 : i = 9
              · have b5 : ((i : Int) == 9) = true := beq_iff_eq.mpr (by omega)
                have b6 : decide (1 < c % 128) = false := decide_eq_false (by omega)
                have b7 : decide (0 < (i : Int)) = true := decide_eq_true (by omega)
                have b8 : (c % 128 == 0) = false := beq_eq_false_iff_ne.mpr (by omega)
                go_wp2
                all_goals (try rw [Exit.noGoto_ret])
                all_goals go_ret
                all_goals have hG1 := hG.out.1
                all_goals have hr := hE.out
                all_goals subst hr
                all_goals refine ⟨?_, HR1.out, HB1.out, HF1.out⟩
                all_goals first
                  | (show Ending.returned (.int .u64 (Go.bits .or .u64 m (IntKind.u64.wrap (c % 128 * 2 ^ (7 * i))))) = .returned (.int .u64 (m + c % 128 * 128 ^ i)); rw [hG1])
                  | (have hz : c % 128 = 0 := by assumption
                     rw [hz, Int.zero_mul, show IntKind.u64.wrap 0 = 0 from by rw [wrap_u64]; rfl] at hG1
                     show Ending.returned (.int .u64 (Go.bits .or .u64 m 0)) = .returned (.int .u64 (m + c % 128 * 128 ^ i))
                     rw [hz, hG1])
                  | (have h9 : IntKind.u64.wrap (c % 128 * 2 ^ (7 * 9)) = c % 128 * 9223372036854775808 := by rw [wrap_u64]; simp; omega
                     subst c9
                     rw [h9] at hG1
                     show Ending.returned (.int .u64 (Go.bits .or .u64 m (c % 128 * 9223372036854775808))) = .returned (.int .u64 (m + c % 128 * 128 ^ 9))
                     rw [hG1])
                  | trace_state
              · have b5 : ((i : Int) == 9) = false := beq_eq_false_iff_ne.mpr (by omega)
                go_wp2
                all_goals (try rw [Exit.noGoto_ret])
                all_goals go_ret
                all_goals have hG1 := hG.out.1
                all_goals have hr := hE.out
                all_goals subst hr
                all_goals refine ⟨?_, HR1.out, HB1.out, HF1.out⟩
                all_goals first
                  | (show Ending.returned (.int .u64 (Go.bits .or .u64 m (IntKind.u64.wrap (c % 128 * 2 ^ (7 * i))))) = .returned (.int .u64 (m + c % 128 * 128 ^ i)); rw [hG1])
                  | (have hz : c % 128 = 0 := by assumption
                     rw [hz, Int.zero_mul, show IntKind.u64.wrap 0 = 0 from by rw [wrap_u64]; rfl] at hG1
                     show Ending.returned (.int .u64 (Go.bits .or .u64 m 0)) = .returned (.int .u64 (m + c % 128 * 128 ^ i))
                     rw [hz, hG1])
                  | (have h9 : IntKind.u64.wrap (c % 128 * 2 ^ (7 * 9)) = c % 128 * 9223372036854775808 := by rw [wrap_u64]; simp; omega
                     subst c9
                     rw [h9] at hG1
                     show Ending.returned (.int .u64 (Go.bits .or .u64 m (c % 128 * 9223372036854775808))) = .returned (.int .u64 (m + c % 128 * 128 ^ 9))
                     rw [hG1])
                  | trace_state
            · rw [if_neg cC] at hE1
              have hE := Aside0.mk hE1
              clear hE1
              have b2 : decide (c < 128) = false := decide_eq_false cC
              have hG := Aside0.mk (or_grp i m (c % 128) hlt m0 m1 (by omega) (by omega) (by omega))
              have hG1 := hG.out.1
              have hG2 := hG.out.2
              by_cases c9 : i = 9
              · have b5 : ((i : Int) == 9) = true := beq_iff_eq.mpr (by omega)
                have b6 : decide (1 < c % 128) = false := decide_eq_false (by omega)
                have h9 : IntKind.u64.wrap (c % 128 * 2 ^ (7 * 9)) = c % 128 * 9223372036854775808 := by rw [wrap_u64]; simp; omega
                have hG3 : Go.bits .or .u64 m (c % 128 * 9223372036854775808) = m + c % 128 * 128 ^ i := by
                  rw [← hG1, c9, h9]
                clear h9
                go_wp2
                go_roundw
                case rel => exact ⟨i + 1, m + c % 128 * 128 ^ i, t, 0, by go_num, by rw [c9, show (128 : Int) ^ 9 = 9223372036854775808 from by decide], by omega, hG2.1, hG2.2, hl2, .inl rfl, ⟨by rw [if_pos rfl]; exact hE.out⟩, HR1, HB1, HF1⟩
                case measure => simp [intOf]; omega
              · have b5 : ((i : Int) == 9) = false := beq_eq_false_iff_ne.mpr (by omega)
                go_wp2
                go_roundw
                case rel => exact ⟨i + 1, m + c % 128 * 128 ^ i, t, 0, by go_num, rfl, by omega, hG2.1, hG2.2, hl2, .inl rfl, ⟨by rw [if_pos rfl]; exact hE.out⟩, HR1, HB1, HF1⟩
                case measure => simp [intOf]; omega
      · rw [if_neg hz] at ht
        obtain ⟨rfl, hR1⟩ := ht
        have HR1 := Aside0.mk hR1
        clear hR1
        go_wp2
        (try rw [Exit.noGoto_ret])
        go_ret
        have hr := HE.out
        have hr2 : r = (0, l1, if f1 = 0 then 3 else f1) := by
          rw [← hr]
          by_cases hf : f1 = 0
          · have hn : l1 = [] := by
              rcases l1 with _ | ⟨x, y⟩
              · rfl
              · exact absurd ⟨hf, by simp; omega⟩ hz
            subst hn
            rw [if_pos hf, if_pos hf, show 10 - i = (10 - (i + 1)) + 1 from by omega, rdNum]
          · rw [if_neg hf, if_neg hf]
        subst hr2
        exact ⟨rfl, HR1.out, HB1.out, HF1.out⟩
    · obtain rfl : i = 10 := by omega
      have hltb : decide (((10 : Nat) : Int) < 10) = false := by decide
      have hf0 : f1 = 0 := by omega
      subst hf0
      go_wp2_with fail
      refine (bad.calls B g l1 0 w0 wr HB.out hg HR.out).mono ?_
      rintro e w2 ⟨rfl, hR2, hb2, hF2⟩
      have HR2 := Aside0.mk (show RdP g l1 4 w2 by simpa using hR2)
      have HB2 := Aside0.mk hb2
      have HF2 := Aside0.mk (HF.out.trans hF2 (fun _ _ h => h))
      clear hR2 hb2 hF2
      go_wp2
      (try rw [Exit.noGoto_ret])
      go_ret
      have hr := HE.out
      simp only [if_true, Nat.sub_self, rdNum] at hr
      subst hr
      exact ⟨rfl, HR2.out, HB2.out, HF2.out⟩
end Wr
end Go.Proofs.Ytjegkfdcelodeaa.P
