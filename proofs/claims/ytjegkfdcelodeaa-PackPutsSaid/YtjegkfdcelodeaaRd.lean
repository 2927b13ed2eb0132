import Derived.Test.YtjegkfdcelodeaaWrT
namespace Go.Proofs.Ytjegkfdcelodeaa.P
open Go.RowKit Go.Proofs.YtjegkfdcelodeaaW.PrintWords Go.Proofs.YtjegkfdcelodeaaW.PrintLast Go.Proofs.YtjegkfdcelodeaaW.PrintMore
attribute [local go_sem] max2_int min2_int max_two min_two max_three min_three max_four min_four
set_option linter.unusedVariables false
set_option linter.unusedSimpArgs false
namespace Wr
/-- A reader at g: the bytes that are left, and the fault. -/
structure RdS (g : Nat) (A : Option Addr) (c : Nat) (l : List Int) (f : Int) (W : World) : Prop where
  blk : W.heap[g]? = some (.cells #[.slice A l.length c, .int .i64 f] 106 (0, 0))
  cap : l.length ≤ c
  row : Kd.C (Kd.int .u8) W A l.length l
  under : ∀ ad, A = some ad → 0 < l.length → ad.block < g
theorem RdS.away {g : Nat} {A : Option Addr} {c : Nat} {l : List Int} {f : Int} {W : World} (h : RdS g A c l f W) : ∀ ad, A = some ad → 0 < l.length → ad.block ≠ g := fun ad e hp => Nat.ne_of_lt (h.under ad e hp)
def RdP (g : Nat) (l : List Int) (f : Int) (W : World) : Prop := ∃ A c, RdS g A c l f W
theorem RdS.c0 {g : Nat} {A : Option Addr} {c : Nat} {l : List Int} {f : Int} {W : World} (h : RdS g A c l f W) : W.cell? ⟨g, 0, none⟩ = some (.slice A l.length c) := blk_cell h.blk 0
theorem RdS.c1 {g : Nat} {A : Option Addr} {c : Nat} {l : List Int} {f : Int} {W : World} (h : RdS g A c l f W) : W.cell? ⟨g, 1, none⟩ = some (.int .i64 f) := blk_cell h.blk 1
theorem RdS.f0 {g : Nat} {A : Option Addr} {c : Nat} {l : List Int} {f : Int} {W : World} (h : RdS g A c l f W) : W.frozen? ⟨g, 0, none⟩ = false := blk_frozen h.blk 0
theorem RdS.f1 {g : Nat} {A : Option Addr} {c : Nat} {l : List Int} {f : Int} {W : World} (h : RdS g A c l f W) : W.frozen? ⟨g, 1, none⟩ = false := blk_frozen h.blk 1
theorem C_set {g : Nat} {A : Option Addr} {l : List Int} {W : World} (h : Kd.C (Kd.int .u8) W A l.length l) (ha : ∀ ad, A = some ad → 0 < l.length → ad.block ≠ g) (j : Nat) (u : Value) : Kd.C (Kd.int .u8) (W.setCell ⟨g, j, none⟩ u) A l.length l :=
  Kd.C_keep 0 h (KeepBut.set_ (KeepBut.refl W g none) j u) ha
/-- The fault turned. -/
theorem RdS.setF {g : Nat} {A : Option Addr} {c : Nat} {l : List Int} {f : Int} {W : World} (h : RdS g A c l f W) (f2 : Int) : RdS g A c l f2 (W.setCell ⟨g, 1, none⟩ (.int .i64 f2)) :=
  ⟨blk_put h.blk 1 _ rfl, h.cap, C_set h.row h.away 1 _, h.under⟩
/-- The bytes cut. -/
theorem RdS.cut {g : Nat} {A : Option Addr} {c : Nat} {l : List Int} {f : Int} {W : World} (h : RdS g A c l f W) (m : Nat) (hm : m ≤ l.length) :
    RdS g (if c = m then A else A.map (·.add (m * 1))) (c - m) (l.drop m) f (W.setCell ⟨g, 0, none⟩ (.slice (if c = m then A else A.map (·.add (m * 1))) (l.length - m) (c - m))) := by
  have ha : ∀ ad, (if c = m then A else A.map (·.add (m * 1))) = some ad → 0 < (l.drop m).length → ad.block < g := by
    intro ad e hp
    rw [List.length_drop] at hp
    split at e
    · exact h.under ad e (by omega)
    · obtain ⟨b, hb, rfl⟩ := Option.map_eq_some_iff.mp e
      have := h.under b hb (by omega)
      unfold Addr.add; split <;> simpa using this
  refine ⟨?_, by rw [List.length_drop]; have := h.cap; omega, ?_, ha⟩
  · rw [List.length_drop]; exact blk_put h.blk 0 _ rfl
  · exact C_set (Kd.C_drop h.row hm h.cap) (fun ad e hp => Nat.ne_of_lt (ha ad e hp)) 0 _
/-- What take leaves. -/
def TakePost (B g : Nat) (l : List Int) (f n : Int) (w0 w : World) (e : Ending) (w' : World) : Prop :=
  Below B w0 w' ∧ Far w w' (fun k => k = g) ∧
  (if f = 0 ∧ n ≤ l.length then (∃ A1 c1, e = .returned (.tuple #[.slice A1 n.toNat c1, .bool true]) ∧ Kd.C (Kd.int .u8) w' A1 n.toNat (l.take n.toNat) ∧ (∀ ad, A1 = some ad → 0 < n.toNat → ad.block ≠ g)) ∧ RdP g (l.drop n.toNat) 0 w'
   else e = .returned (.tuple #[.slice none 0 0, .bool false]) ∧ RdP g l (if f = 0 then 3 else f) w')
set_option maxHeartbeats 8000000 in
set_option maxRecDepth 100000 in
theorem take_nil.calls (n : Int) (w : World) :
    Calls Try.prog 72 #[.pointer none, .int .u64 n] w fun e w' => e = .returned (.tuple #[.slice none 0 0, .bool false]) ∧ Below w.heap.size w w' := by
  have HB := Aside0.mk (Below.refl w.heap.size w)
  go_enter Try.func72, Try.ntmps72
  go_wp2
  go_ret2
  exact ⟨rfl, HB.out⟩
theorem info5i : ∃ i, Try.prog.info? 5 = some i ∧ i.size = 1 := by
  have h := info5
  obtain ⟨i, hi, hz⟩ := Option.map_eq_some_iff.1 h
  simp only [Prod.mk.injEq] at hz
  exact ⟨i, hi, hz.2.1⟩
set_option maxHeartbeats 8000000 in
set_option maxRecDepth 100000 in
theorem take.calls (B g : Nat) (l : List Int) (f n : Int) (w0 w : World) (h0 : 0 ≤ n) (h1 : n < 18446744073709551616) (hB : Below B w0 w) (hg : B ≤ g) (hR : RdP g l f w) :
    Calls Try.prog 72 #[.pointer (some ⟨g, 0, none⟩), .int .u64 n] w (TakePost B g l f n w0 w) := by
  obtain ⟨A, c, hR⟩ := hR
  have hmax := Kd.C_max hR.row
  have hw : IntKind.u64.wrap (l.length : Int) = l.length := by rw [wrap_u64]; omega
  have hc0 := hR.c0
  have hc1 := hR.c1
  have hf0 := hR.f0
  have hf1 := hR.f1
  have HR := Aside0.mk hR
  have HB := Aside0.mk hB
  clear hR hB
  by_cases cf : f = 0
  · subst cf
    by_cases cn : n ≤ l.length
    · have cnb : decide ((l.length : Int) < n) = false := decide_eq_false (by omega)
      obtain ⟨i5, hi5, hs5⟩ := info5i
      have hcut1 := cut_to (P := Try.prog) 32 5 .u64 Try.underlying32 hi5 A l.length c n h0 cn HR.out.cap
      have hcut2 := cut_from (P := Try.prog) 32 5 .u64 Try.underlying32 hi5 1 hs5 A l.length c n h0 cn
      obtain ⟨A2, hA2⟩ : ∃ A2, A2 = (if c = n.toNat then A else A.map (·.add (n.toNat * 1))) := ⟨_, rfl⟩
      rw [← hA2] at hcut2
      have hd := HR.out.cut n.toNat (by omega)
      rw [← hA2] at hd
      have HD := Aside0.mk hd
      clear hd hA2
      go_enter Try.func72, Try.ntmps72
      go_wp2
      go_ret2
      refine ⟨HB.out.setCell hg _, (Far.refl w (fun k => k = g)).setCell (p := ⟨g, 0, none⟩) (.inr rfl) _, ?_⟩
      rw [if_pos ⟨rfl, cn⟩]
      have ht := Kd.C_take HR.out.row (m := n.toNat) (by omega)
      have hl : (l.take n.toNat).length = n.toNat := by rw [List.length_take]; omega
      have ha : ∀ ad, A = some ad → 0 < (l.take n.toNat).length → ad.block ≠ g := fun ad e hp => HR.out.away ad e (by omega)
      have ht2 := C_set ht ha 0 (.slice A2 (l.length - n.toNat) (c - n.toNat))
      rw [hl] at ht2 ha
      exact ⟨⟨A, c, rfl, ht2, ha⟩, _, _, HD.out⟩
    · have cnb : decide ((l.length : Int) < n) = true := decide_eq_true (by omega)
      go_enter Try.func72, Try.ntmps72
      go_wp2
      go_ret2
      refine ⟨HB.out.setCell hg _, (Far.refl w (fun k => k = g)).setCell (p := ⟨g, 1, none⟩) (.inr rfl) _, ?_⟩
      rw [if_neg (by omega), if_pos rfl]
      exact ⟨rfl, _, _, HR.out.setF 3⟩
  · have cfb : (f != 0) = true := bne_iff_ne.mpr cf
    go_enter Try.func72, Try.ntmps72
    go_wp2
    go_ret2
    refine ⟨HB.out, Far.refl w _, ?_⟩
    rw [if_neg (by omega), if_neg cf]
    exact ⟨rfl, _, _, HR.out⟩
end Wr
end Go.Proofs.Ytjegkfdcelodeaa.P
