import Derived.Test.YtjegkfdcelodeaaPr
import Derived.Test.YtjegkfdcelodeaaXr
namespace Go.Proofs.Ytjegkfdcelodeaa.P
open Go.RowKit Go.Proofs.YtjegkfdcelodeaaW.PrintWords Go.Proofs.YtjegkfdcelodeaaW.PrintLast Go.Proofs.YtjegkfdcelodeaaW.PrintMore
attribute [local go_sem] max2_int min2_int max_two min_two max_three min_three max_four min_four
set_option linter.unusedVariables false
set_option linter.unusedSimpArgs false
namespace Wr
/-- A reader's state with a fault, if it has none. -/
def badS (s : List Int × Int) : List Int × Int := (s.1, if s.2 = 0 then 4 else s.2)
def limV (lim : Int) : Int := if lim < 0 then 0 else lim
def withinS (lim : Int) (s : List Int × Int) : Int × List Int × Int := if limV lim < (numS s).1 then (0, badS (numS s).2) else numS s
def takeS (n : Int) (s : List Int × Int) : List Int × List Int × Int := if s.2 = 0 ∧ n ≤ s.1.length then (s.1.take n.toNat, s.1.drop n.toNat, 0) else ([], s.1, if s.2 = 0 then 3 else s.2)
def textS (lim : Int) (s : List Int × Int) : ByteArray × List Int × Int := (strOfNums (takeS (withinS lim s).1 (withinS lim s).2).1, (takeS (withinS lim s).1 (withinS lim s).2).2)
def boolS (s : List Int × Int) : Bool × List Int × Int := match (takeS 1 s).1 with
  | [] => (false, (takeS 1 s).2)
  | b :: _ => (b == 1, if 1 < b then badS (takeS 1 s).2 else (takeS 1 s).2)
def unz (n : Int) : Int := if n % 2 = 0 then n / 2 else -(n / 2) - 1
def intS (s : List Int × Int) : Int × List Int × Int := (unz (numS s).1, (numS s).2)
/-- What a call of a reader leaves. -/
def RQ (B g : Nat) (v : Value) (s : List Int × Int) (w0 w : World) (e : Ending) (w' : World) : Prop := e = .returned v ∧ RdP g s.1 s.2 w' ∧ Below B w0 w' ∧ Far w w' (fun k => k = g)
theorem rdNum_bd0 (l : List Int) (hl : ∀ x ∈ l, 0 ≤ x ∧ x < 256) : 0 ≤ (rdNum 10 0 0 l).1 ∧ (rdNum 10 0 0 l).1 < 18446744073709551616 := rdNum_bd 10 0 0 l hl rfl (by omega) (by omega)
theorem numS_bd (s : List Int × Int) (hs : ∀ x ∈ s.1, 0 ≤ x ∧ x < 256) : 0 ≤ (numS s).1 ∧ (numS s).1 < 18446744073709551616 := by
  unfold numS
  split
  · exact rdNum_bd0 _ hs
  · exact ⟨by omega, by omega⟩
theorem numS_sub (s : List Int × Int) : ∀ x ∈ (numS s).2.1, x ∈ s.1 := by
  intro x hx
  unfold numS at hx
  split at hx
  · exact rdNum_sub _ _ _ _ x hx
  · exact hx
/-- Reader.Num, as one state makes another. -/
theorem RNumS.calls (B g : Nat) (s : List Int × Int) (w0 w : World) (hl : ∀ x ∈ s.1, 0 ≤ x ∧ x < 256) (hB : Below B w0 w) (hg : B ≤ g) (hR : RdP g s.1 s.2 w) :
    Calls Try.prog 48 #[.pointer (some ⟨g, 0, none⟩)] w (RQ B g (.int .u64 (numS s).1) (numS s).2 w0 w) := by
  refine (Reader_Num.calls B g s.1 s.2 w0 w hl hB hg hR).mono ?_
  intro e w' h
  unfold numS
  by_cases c : s.2 = 0
  · rw [if_pos c] at h ⊢
    exact h
  · rw [if_neg c] at h ⊢
    exact h
theorem and_one (n : Int) (h : 0 ≤ n ∧ n < 18446744073709551616) : Go.bits .and .u64 n 1 = n % 2 := by
  simp only [Go.bits]
  rw [wrap_u64]
  show (((BitVec.ofInt 64 n &&& 1#64).toNat : Nat) : Int) % 18446744073709551616 = _
  rw [BitVec.toNat_and, BitVec.toNat_ofInt, show (1#64).toNat = 2 ^ 1 - 1 from rfl, Nat.and_two_pow_sub_one_eq_mod]
  omega
theorem wrap_eq (x : Int) : IntKind.i64.wrap x = wrap64 x := by rw [IntKind.wrap_i64]; unfold wrap64; omega
theorem xor_i0 (x : Int) (h : -9223372036854775808 ≤ x ∧ x < 9223372036854775808) : Go.bits .xor .i64 x 0 = x := by
  simp only [Go.bits]
  rw [show BitVec.ofInt IntKind.i64.bits 0 = 0#64 from rfl, wrap_eq]
  show wrap64 (((BitVec.ofInt 64 x ^^^ 0#64).toNat : Nat) : Int) = _
  rw [BitVec.xor_zero, BitVec.toNat_ofInt]
  unfold wrap64
  omega
theorem xor_i1 (x : Int) (h : -9223372036854775808 ≤ x ∧ x < 9223372036854775808) : Go.bits .xor .i64 x (-1) = -x - 1 := by
  simp only [Go.bits]
  rw [show BitVec.ofInt IntKind.i64.bits (-1) = BitVec.allOnes 64 from rfl, wrap_eq]
  show wrap64 (((BitVec.ofInt 64 x ^^^ BitVec.allOnes 64).toNat : Nat) : Int) = _
  rw [BitVec.xor_allOnes, BitVec.toNat_not, BitVec.toNat_ofInt]
  unfold wrap64
  omega
theorem unz_eq (n : Int) (h : 0 ≤ n ∧ n < 18446744073709551616) : Go.bits .xor .i64 (n / 2) (wrap64 (-wrap64 (Go.bits .and .u64 n 1))) = unz n := by
  rw [and_one n h]
  unfold unz
  by_cases c : n % 2 = 0
  · rw [if_pos c, c, show wrap64 (-wrap64 0) = 0 from by unfold wrap64; omega, xor_i0 _ (by omega)]
  · rw [if_neg c, show n % 2 = 1 from by omega, show wrap64 (-wrap64 1) = -1 from by unfold wrap64; omega, xor_i1 _ (by omega)]
set_option maxHeartbeats 8000000 in
set_option maxRecDepth 100000 in
theorem RIntS.calls (B g : Nat) (s : List Int × Int) (w0 w : World) (hl : ∀ x ∈ s.1, 0 ≤ x ∧ x < 256) (hB : Below B w0 w) (hg : B ≤ g) (hR : RdP g s.1 s.2 w) :
    Calls Try.prog 49 #[.pointer (some ⟨g, 0, none⟩)] w (RQ B g (.int .i64 (intS s).1) (intS s).2 w0 w) := by
  have hb := numS_bd s hl
  go_enter Try.func49, Try.ntmps49
  go_wp2_with fail
  refine (RNumS.calls B g s w0 w hl hB hg hR).mono ?_
  rintro e w1 ⟨rfl, hr, hb1, hf⟩
  have H := Aside0.mk (show RQ B g (.int .i64 (intS s).1) (intS s).2 w0 w (.returned (.int .i64 (intS s).1)) w1 from ⟨rfl, hr, hb1, hf⟩)
  clear hr hb1 hf hB hR
  go_wp2
  go_ret
  rw [unz_eq _ hb]
  exact H.out
set_option maxHeartbeats 8000000 in
set_option maxRecDepth 100000 in
theorem withinS.calls (B g : Nat) (lim : Int) (s : List Int × Int) (w0 w : World) (h0 : -9223372036854775808 ≤ lim ∧ lim < 9223372036854775808) (hl : ∀ x ∈ s.1, 0 ≤ x ∧ x < 256) (hB : Below B w0 w) (hg : B ≤ g) (hR : RdP g s.1 s.2 w) :
    Calls Try.prog 74 #[.pointer (some ⟨g, 0, none⟩), .int .i64 lim] w (RQ B g (.int .u64 (withinS lim s).1) (withinS lim s).2 w0 w) := by
  have hb := numS_bd s hl
  have HB0 := Aside0.mk hB
  have HR0 := Aside0.mk hR
  clear hB hR
  by_cases l0 : lim < 0
  · have hlv : limV lim = 0 := if_pos l0
    by_cases lt : 0 < (numS s).1
    · have hn : 0 < (numS s).1 := by omega
      
      have e : withinS lim s = (0, badS (numS s).2) := by unfold withinS; rw [hlv, if_pos hn]
      have HE := Aside0.mk e
      clear e hlv
      go_enter Try.func74, Try.ntmps74
      go_wp2_with fail
      refine (RNumS.calls B g s w0 w hl HB0.out hg HR0.out).mono ?_
      rintro e w1 ⟨rfl, hr, hb1, hf⟩
      have HR := Aside0.mk hr
      have HB := Aside0.mk hb1
      have HF := Aside0.mk hf
      clear hr hb1 hf HB0 HR0
      go_wp2_with fail
      refine (bad.calls B g _ _ w0 w1 HB.out hg HR.out).mono ?_
      rintro e w2 ⟨rfl, hr2, hb2, hf2⟩
      have H := Aside0.mk (show RQ B g (.int .u64 0) (badS (numS s).2) w0 w (.returned (.int .u64 0)) w2 from ⟨rfl, hr2, hb2, HF.out.trans hf2 (fun _ _ h => h)⟩)
      clear hr2 hb2 hf2 HR HB HF
      go_wp2
      go_ret
      rw [HE.out]
      exact H.out
    · have hn : ¬ 0 < (numS s).1 := by omega
      
      have e : withinS lim s = numS s := by unfold withinS; rw [hlv, if_neg hn]
      have HE := Aside0.mk e
      clear e hlv
      go_enter Try.func74, Try.ntmps74
      go_wp2_with fail
      refine (RNumS.calls B g s w0 w hl HB0.out hg HR0.out).mono ?_
      rintro e w1 ⟨rfl, hr, hb1, hf⟩
      have HR := Aside0.mk hr
      have HB := Aside0.mk hb1
      have HF := Aside0.mk hf
      clear hr hb1 hf HB0 HR0
      have H := Aside0.mk (show RQ B g (.int .u64 (numS s).1) (numS s).2 w0 w (.returned (.int .u64 (numS s).1)) w1 from ⟨rfl, HR.out, HB.out, HF.out⟩)
      clear HR HB HF
      go_wp2
      go_ret
      rw [HE.out]
      exact H.out
  · have hlv : limV lim = lim := if_neg l0
    by_cases lt : lim < (numS s).1
    · have hn : lim < (numS s).1 := by omega
      have hw : IntKind.u64.wrap lim = lim := by rw [wrap_u64]; omega
      have e : withinS lim s = (0, badS (numS s).2) := by unfold withinS; rw [hlv, if_pos hn]
      have HE := Aside0.mk e
      clear e hlv
      go_enter Try.func74, Try.ntmps74
      go_wp2_with fail
      refine (RNumS.calls B g s w0 w hl HB0.out hg HR0.out).mono ?_
      rintro e w1 ⟨rfl, hr, hb1, hf⟩
      have HR := Aside0.mk hr
      have HB := Aside0.mk hb1
      have HF := Aside0.mk hf
      clear hr hb1 hf HB0 HR0
      go_wp2_with fail
      refine (bad.calls B g _ _ w0 w1 HB.out hg HR.out).mono ?_
      rintro e w2 ⟨rfl, hr2, hb2, hf2⟩
      have H := Aside0.mk (show RQ B g (.int .u64 0) (badS (numS s).2) w0 w (.returned (.int .u64 0)) w2 from ⟨rfl, hr2, hb2, HF.out.trans hf2 (fun _ _ h => h)⟩)
      clear hr2 hb2 hf2 HR HB HF
      go_wp2
      go_ret
      rw [HE.out]
      exact H.out
    · have hn : ¬ lim < (numS s).1 := by omega
      have hw : IntKind.u64.wrap lim = lim := by rw [wrap_u64]; omega
      have e : withinS lim s = numS s := by unfold withinS; rw [hlv, if_neg hn]
      have HE := Aside0.mk e
      clear e hlv
      go_enter Try.func74, Try.ntmps74
      go_wp2_with fail
      refine (RNumS.calls B g s w0 w hl HB0.out hg HR0.out).mono ?_
      rintro e w1 ⟨rfl, hr, hb1, hf⟩
      have HR := Aside0.mk hr
      have HB := Aside0.mk hb1
      have HF := Aside0.mk hf
      clear hr hb1 hf HB0 HR0
      have H := Aside0.mk (show RQ B g (.int .u64 (numS s).1) (numS s).2 w0 w (.returned (.int .u64 (numS s).1)) w1 from ⟨rfl, HR.out, HB.out, HF.out⟩)
      clear HR HB HF
      go_wp2
      go_ret
      rw [HE.out]
      exact H.out
theorem numS_lt (s : List Int × Int) (hs : ∀ x ∈ s.1, 0 ≤ x ∧ x < 256) (lim : Int) : 0 ≤ (withinS lim s).1 ∧ (withinS lim s).1 < 18446744073709551616 := by
  have := numS_bd s hs
  unfold withinS
  split
  · exact ⟨by omega, by omega⟩
  · exact this
set_option maxHeartbeats 8000000 in
set_option maxRecDepth 100000 in
theorem RTextS.calls (B g : Nat) (lim : Int) (s : List Int × Int) (w0 w : World) (h0 : -9223372036854775808 ≤ lim ∧ lim < 9223372036854775808) (hl : ∀ x ∈ s.1, 0 ≤ x ∧ x < 256) (hB : Below B w0 w) (hg : B ≤ g) (hR : RdP g s.1 s.2 w) :
    Calls Try.prog 50 #[.pointer (some ⟨g, 0, none⟩), .int .i64 lim] w (RQ B g (.string (textS lim s).1) (textS lim s).2 w0 w) := by
  have hb := numS_lt s hl lim
  go_enter Try.func50, Try.ntmps50
  go_wp2_with fail
  refine (withinS.calls B g lim s w0 w h0 hl hB hg hR).mono ?_
  rintro e w1 ⟨rfl, hr, hb1, hf⟩
  have HR := Aside0.mk hr
  have HB := Aside0.mk hb1
  have HF := Aside0.mk hf
  clear hr hb1 hf hB hR
  go_wp2_with fail
  refine (take.calls B g _ _ _ w0 w1 hb.1 hb.2 HB.out hg HR.out).mono ?_
  rintro e w2 ⟨hb2, hf2, h2⟩
  have HB2 := Aside0.mk hb2
  have HF2 := Aside0.mk (HF.out.trans hf2 (fun _ _ h => h))
  clear hb2 hf2 HR HB HF
  by_cases c : (withinS lim s).2.2 = 0 ∧ (withinS lim s).1 ≤ (withinS lim s).2.1.length
  · rw [if_pos c] at h2
    obtain ⟨⟨A1, c1, rfl, hC, _⟩, hr⟩ := h2
    have e : textS lim s = (strOfNums ((withinS lim s).2.1.take (withinS lim s).1.toNat), (withinS lim s).2.1.drop (withinS lim s).1.toNat, 0) := by unfold textS takeS; rw [if_pos c]
    have HE := Aside0.mk e
    have HR := Aside0.mk hr
    have hcv := Kd.C_string (P := Try.prog) (c := c1) Try.underlying32 Try.underlying5 Try.underlying9 hC
    clear e hr hC
    go_wp2
    go_ret
    rw [HE.out]
    exact ⟨rfl, HR.out, HB2.out, HF2.out⟩
  · rw [if_neg c] at h2
    obtain ⟨rfl, hr⟩ := h2
    have e : textS lim s = (strOfNums [], (withinS lim s).2.1, if (withinS lim s).2.2 = 0 then 3 else (withinS lim s).2.2) := by unfold textS takeS; rw [if_neg c]
    have HE := Aside0.mk e
    have HR := Aside0.mk hr
    have hcv : ∀ (w : World), (convert 32 9 (.slice none 0 0)).run Try.prog w = .ok (.string (strOfNums [])) w := fun w => Kd.C_string (P := Try.prog) (w := w) (c := 0) Try.underlying32 Try.underlying5 Try.underlying9 (Kd.C_nil (Kd.int .u8) w)
    clear e hr
    go_wp2
    go_ret
    rw [HE.out]
    exact ⟨rfl, HR.out, HB2.out, HF2.out⟩
set_option maxHeartbeats 8000000 in
set_option maxRecDepth 100000 in
theorem RBoolS.calls (B g : Nat) (s : List Int × Int) (w0 w : World) (hB : Below B w0 w) (hg : B ≤ g) (hR : RdP g s.1 s.2 w) :
    Calls Try.prog 51 #[.pointer (some ⟨g, 0, none⟩)] w (RQ B g (.bool (boolS s).1) (boolS s).2 w0 w) := by
  go_enter Try.func51, Try.ntmps51
  go_wp2_with fail
  refine (take.calls B g _ _ 1 w0 w (by omega) (by omega) hB hg hR).mono ?_
  rintro e w2 ⟨hb2, hf2, h2⟩
  have HB2 := Aside0.mk hb2
  have HF2 := Aside0.mk hf2
  clear hb2 hf2 hB hR
  by_cases c : s.2 = 0 ∧ (1 : Int) ≤ s.1.length
  · rw [if_pos c] at h2
    obtain ⟨⟨A1, c1, rfl, hC, hne⟩, hr⟩ := h2
    obtain ⟨b, t, hs⟩ : ∃ b t, s.1 = b :: t := by
      cases h : s.1 with
      | nil => rw [h] at c; simp at c
      | cons b t => exact ⟨b, t, rfl⟩
    have e : boolS s = (b == 1, if 1 < b then badS (t, 0) else (t, 0)) := by
      unfold boolS takeS
      rw [if_pos c, hs]
      simp
    rw [hs] at hC hr
    obtain ⟨ad, rfl, hcell⟩ := Kd.at_int hC 0 (by omega) (by decide)
    have hcell2 : w2.cell? ad = some (.int .u8 b) := by simpa [rd, Addr.add] using hcell
    have HE := Aside0.mk e
    have HR := Aside0.mk (show RdP g t 0 w2 from hr)
    have HC := Aside0.mk hC
    have HN := Aside0.mk hne
    clear e hr hC hcell hne
    by_cases d : 1 < b
    · have d1 : decide (1 < b) = true := decide_eq_true d
      have d2 : (b == 1) = false := beq_eq_false_iff_ne.mpr (by omega)
      go_wp2_with fail
      clear hcell2
      refine (bad.calls B g _ _ w0 w2 HB2.out hg HR.out).mono ?_
      rintro e w3 ⟨rfl, hr3, hb3, hf3⟩
      have hC3 := Kd.C_keep 0 HC.out ⟨hf3.size, fun i hi hg _ => hf3.block i hi hg⟩ HN.out
      obtain ⟨ad', he, hcell3⟩ := Kd.at_int hC3 0 (by omega) (by decide)
      obtain rfl := Option.some.inj he
      have hcell2 : w3.cell? ad = some (.int .u8 b) := by simpa [rd, Addr.add] using hcell3
      have HR3 := Aside0.mk (show RdP g t 4 w3 from hr3)
      have HB3 := Aside0.mk hb3
      have HF3 := Aside0.mk (HF2.out.trans hf3 (fun _ _ h => h))
      clear hr3 hb3 hf3 hC3 hcell3 HB2 HF2 HR HC HN
      go_wp2
      go_ret
      rw [HE.out, if_pos d]
      exact ⟨by show _ = Ending.returned (.bool (b == 1)); rw [d2]; rfl, HR3.out, HB3.out, HF3.out⟩
    · have d1 : decide (1 < b) = false := decide_eq_false d
      clear d
      go_wp2
      go_ret
      rw [HE.out, if_neg (by simpa using d1)]
      exact ⟨rfl, HR.out, HB2.out, HF2.out⟩
  · rw [if_neg c] at h2
    obtain ⟨rfl, hr⟩ := h2
    have e : boolS s = (false, s.1, if s.2 = 0 then 3 else s.2) := by unfold boolS takeS; rw [if_neg c]
    have HE := Aside0.mk e
    have HR := Aside0.mk hr
    clear e hr
    go_wp2
    go_ret
    rw [HE.out]
    exact ⟨rfl, HR.out, HB2.out, HF2.out⟩
end Wr
end Go.Proofs.Ytjegkfdcelodeaa.P

namespace Go.Proofs.Ytjegkfdcelodeaa.P
open Go.RowKit Go.Proofs.YtjegkfdcelodeaaW.PrintWords Go.Proofs.YtjegkfdcelodeaaW.PrintLast Go.Proofs.YtjegkfdcelodeaaW.PrintMore
attribute [local go_sem] max2_int min2_int max_two min_two max_three min_three max_four min_four
set_option linter.unusedVariables false
set_option linter.unusedSimpArgs false
namespace Wr
/-- What a call of the reference's reader leaves. -/
def XQ (B g : Nat) (v : Value) (s : List Int × Int) (w0 w : World) (e : Ending) (w' : World) : Prop := e = .returned v ∧ XdP g s.1 s.2 w' ∧ Below B w0 w' ∧ Far w w' (fun k => k = g)
theorem XNumS.calls (B g : Nat) (s : List Int × Int) (w0 w : World) (hl : ∀ x ∈ s.1, 0 ≤ x ∧ x < 256) (hB : Below B w0 w) (hg : B ≤ g) (hR : XdP g s.1 s.2 w) :
    Calls Try.prog 71 #[.pointer (some ⟨g, 0, none⟩)] w (XQ B g (.int .u64 (numS s).1) (numS s).2 w0 w) := by
  refine (X_Num.calls B g s.1 s.2 w0 w hl hB hg hR).mono ?_
  intro e w' h
  unfold numS
  by_cases c : s.2 = 0
  · rw [if_pos c] at h ⊢
    exact h
  · rw [if_neg c] at h ⊢
    exact h
set_option maxHeartbeats 8000000 in
set_option maxRecDepth 100000 in
theorem XIntS.calls (B g : Nat) (s : List Int × Int) (w0 w : World) (hl : ∀ x ∈ s.1, 0 ≤ x ∧ x < 256) (hB : Below B w0 w) (hg : B ≤ g) (hR : XdP g s.1 s.2 w) :
    Calls Try.prog 75 #[.pointer (some ⟨g, 0, none⟩)] w (XQ B g (.int .i64 (intS s).1) (intS s).2 w0 w) := by
  have hb := numS_bd s hl
  go_enter Try.func75, Try.ntmps75
  go_wp2_with fail
  refine (XNumS.calls B g s w0 w hl hB hg hR).mono ?_
  rintro e w1 ⟨rfl, hr, hb1, hf⟩
  have H := Aside0.mk (show XQ B g (.int .i64 (intS s).1) (intS s).2 w0 w (.returned (.int .i64 (intS s).1)) w1 from ⟨rfl, hr, hb1, hf⟩)
  clear hr hb1 hf hB hR
  have hm : (numS s).1.tmod 2 = (numS s).1 % 2 := Int.tmod_eq_emod_of_nonneg hb.1
  have hd : (numS s).1.tdiv 2 = (numS s).1 / 2 := Int.tdiv_eq_ediv_of_nonneg hb.1
  by_cases c : (numS s).1 % 2 = 0
  · have c1 : ((numS s).1 % 2 == 0) = true := beq_iff_eq.mpr c
    have e : (intS s).1 = (numS s).1 / 2 := if_pos c
    have HE := Aside0.mk e
    clear e
    go_wp2
    go_ret
    have := H.out
    rw [HE.out] at this ⊢
    exact this
  · have c1 : ((numS s).1 % 2 == 0) = false := beq_eq_false_iff_ne.mpr c
    have e : (intS s).1 = -((numS s).1 / 2) - 1 := if_neg c
    have HE := Aside0.mk e
    have hv1 : wrap64 (-((numS s).1 / 2)) = -((numS s).1 / 2) := by unfold wrap64; omega
    have hv2 : wrap64 (-((numS s).1 / 2) - 1) = -((numS s).1 / 2) - 1 := by unfold wrap64; omega
    clear e
    go_wp2
    go_ret
    have := H.out
    rw [HE.out] at this ⊢
    exact this
theorem rdNum_zero : ∀ (d i : Nat) (n : Int) (l : List Int), (rdNum d i n l).2.2 ≠ 0 → (rdNum d i n l).1 = 0
  | 0, _, _, l, h => rfl
  | d + 1, i, n, [], h => rfl
  | d + 1, i, n, c :: t, h => by
    rw [rdNum] at h ⊢
    split
    · rfl
    · rename_i h1
      rw [if_neg h1] at h
      split
      · rfl
      · rename_i h2
        rw [if_neg h2] at h
        split
        · rename_i h3
          rw [if_pos h3] at h
          exact absurd rfl h
        · rename_i h3
          rw [if_neg h3] at h
          exact rdNum_zero d _ _ t h
theorem numS_zero (s : List Int × Int) (h : (numS s).2.2 ≠ 0) : (numS s).1 = 0 := by
  unfold numS at h ⊢
  split
  · rename_i c
    rw [if_pos c] at h
    exact rdNum_zero _ _ _ _ h
  · rfl
theorem limV_nn (lim : Int) : 0 ≤ limV lim := by unfold limV; split <;> omega
theorem textS_fault (lim : Int) (s : List Int × Int) (h : (numS s).2.2 ≠ 0) : textS lim s = (strOfNums [], (numS s).2) := by
  have hz := numS_zero s h
  have hl := limV_nn lim
  have hw : withinS lim s = numS s := by unfold withinS; rw [if_neg (by omega)]
  unfold textS takeS
  rw [hw, if_neg (fun c => h c.1), if_neg h]
theorem textS_long (lim : Int) (s : List Int × Int) (h : (numS s).2.2 = 0) (hn : limV lim < (numS s).1) : textS lim s = (strOfNums [], (numS s).2.1, 4) := by
  have hw : withinS lim s = (0, (numS s).2.1, 4) := by unfold withinS badS; rw [if_pos hn, if_pos h]
  unfold textS takeS
  rw [hw]
  simp
theorem textS_short (lim : Int) (s : List Int × Int) (h : (numS s).2.2 = 0) (hn : ¬ limV lim < (numS s).1) (hl : ¬ (numS s).1 ≤ (numS s).2.1.length) : textS lim s = (strOfNums [], (numS s).2.1, 3) := by
  have hw : withinS lim s = numS s := by unfold withinS; rw [if_neg hn]
  unfold textS takeS
  rw [hw, if_neg (fun c => hl c.2), if_pos h]
theorem textS_good (lim : Int) (s : List Int × Int) (h : (numS s).2.2 = 0) (hn : ¬ limV lim < (numS s).1) (hl : (numS s).1 ≤ (numS s).2.1.length) : textS lim s = (strOfNums ((numS s).2.1.take (numS s).1.toNat), (numS s).2.1.drop (numS s).1.toNat, 0) := by
  have hw : withinS lim s = numS s := by unfold withinS; rw [if_neg hn]
  unfold textS takeS
  rw [hw, if_pos ⟨h, hl⟩]
theorem strE : strOfNums [] = { data := #[] } := rfl
set_option maxHeartbeats 8000000 in
set_option maxRecDepth 100000 in
theorem XTextS.calls (B g : Nat) (lim : Int) (s : List Int × Int) (w0 w : World) (h0 : -9223372036854775808 ≤ lim ∧ lim < 9223372036854775808) (hl : ∀ x ∈ s.1, 0 ≤ x ∧ x < 256) (hB : Below B w0 w) (hg : B ≤ g) (hR : XdP g s.1 s.2 w) :
    Calls Try.prog 76 #[.pointer (some ⟨g, 0, none⟩), .int .i64 lim] w (XQ B g (.string (textS lim s).1) (textS lim s).2 w0 w) := by
  have hb := numS_bd s hl
  have HB0 := Aside0.mk hB
  have HR0 := Aside0.mk hR
  clear hB hR
  by_cases cf : (numS s).2.2 = 0
  case neg =>
    have HE := Aside0.mk (textS_fault lim s cf)
    have cb : ((numS s).2.2 != 0) = true := bne_iff_ne.mpr cf
    go_enter Try.func76, Try.ntmps76
    go_wp2_with fail
    refine (XNumS.calls B g s w0 w hl HB0.out hg HR0.out).mono ?_
    rintro e w1 ⟨rfl, hr, hb1, hf⟩
    obtain ⟨A, c, hS⟩ := hr
    have hc0 := hS.c0
    have hc1 := hS.c1
    have hf0 := hS.f0
    have hf1 := hS.f1
    have hmax := Kd.C_max hS.row
    have hcap := hS.cap
    have HS := Aside0.mk hS
    have HB := Aside0.mk hb1
    have HF := Aside0.mk hf
    clear hS hb1 hf HB0 HR0
    clear cf
    go_wp2
    go_ret
    rw [HE.out]
    exact ⟨by rw [strE]; rfl, ⟨_, _, HS.out⟩, HB.out, HF.out⟩
  have cb : ((numS s).2.2 != 0) = false := by rw [cf]; rfl
  by_cases cn : limV lim < (numS s).1
  · have HE := Aside0.mk (textS_long lim s cf cn)
    have HCF := Aside0.mk cf
    by_cases l0 : lim < 0
    · have cn' : 0 < (numS s).1 := by unfold limV at cn; rw [if_pos l0] at cn; exact cn
      clear cn cf
      go_enter Try.func76, Try.ntmps76
      go_wp2_with fail
      refine (XNumS.calls B g s w0 w hl HB0.out hg HR0.out).mono ?_
      rintro e w1 ⟨rfl, hr, hb1, hf⟩
      obtain ⟨A, c, hS⟩ := hr
      have hc0 := hS.c0
      have hc1 := hS.c1
      have hf0 := hS.f0
      have hf1 := hS.f1
      have hmax := Kd.C_max hS.row
      have hcap := hS.cap
      have HS := Aside0.mk hS
      have HB := Aside0.mk hb1
      have HF := Aside0.mk hf
      clear hS hb1 hf HB0 HR0
      go_wp2_with fail
      clear hc0 hc1 hf0 hf1
      refine (Xbad.calls B g _ _ w0 w1 HB.out hg ⟨_, _, HS.out⟩).mono ?_
      rintro e w2 ⟨rfl, hr2, hb2, hf2⟩
      rw [HCF.out, if_pos rfl] at hr2
      have HR2 := Aside0.mk hr2
      have HB2 := Aside0.mk hb2
      have HF2 := Aside0.mk (HF.out.trans hf2 (fun _ _ h => h))
      clear hr2 hb2 hf2 HB HF HS
      go_wp2
      go_ret
      rw [HE.out]
      exact ⟨by rw [strE]; rfl, HR2.out, HB2.out, HF2.out⟩
    · have cn' : lim < (numS s).1 := by unfold limV at cn; rw [if_neg l0] at cn; exact cn
      have hw : IntKind.u64.wrap lim = lim := by rw [wrap_u64]; omega
      clear cn cf
      go_enter Try.func76, Try.ntmps76
      go_wp2_with fail
      refine (XNumS.calls B g s w0 w hl HB0.out hg HR0.out).mono ?_
      rintro e w1 ⟨rfl, hr, hb1, hf⟩
      obtain ⟨A, c, hS⟩ := hr
      have hc0 := hS.c0
      have hc1 := hS.c1
      have hf0 := hS.f0
      have hf1 := hS.f1
      have hmax := Kd.C_max hS.row
      have hcap := hS.cap
      have HS := Aside0.mk hS
      have HB := Aside0.mk hb1
      have HF := Aside0.mk hf
      clear hS hb1 hf HB0 HR0
      go_wp2_with fail
      clear hc0 hc1 hf0 hf1
      refine (Xbad.calls B g _ _ w0 w1 HB.out hg ⟨_, _, HS.out⟩).mono ?_
      rintro e w2 ⟨rfl, hr2, hb2, hf2⟩
      rw [HCF.out, if_pos rfl] at hr2
      have HR2 := Aside0.mk hr2
      have HB2 := Aside0.mk hb2
      have HF2 := Aside0.mk (HF.out.trans hf2 (fun _ _ h => h))
      clear hr2 hb2 hf2 HB HF HS
      go_wp2
      go_ret
      rw [HE.out]
      exact ⟨by rw [strE]; rfl, HR2.out, HB2.out, HF2.out⟩
  · by_cases cl : (numS s).1 ≤ (numS s).2.1.length
    · by_cases l0 : lim < 0
      · have cn' : ¬ 0 < (numS s).1 := by unfold limV at cn; rw [if_pos l0] at cn; exact cn
        have HE := Aside0.mk (textS_good lim s cf cn cl)
        have HCF := Aside0.mk cf
        clear cn cf
        go_enter Try.func76, Try.ntmps76
        go_wp2_with fail
        refine (XNumS.calls B g s w0 w hl HB0.out hg HR0.out).mono ?_
        rintro e w1 ⟨rfl, hr, hb1, hf⟩
        obtain ⟨A, c, hS⟩ := hr
        have hc0 := hS.c0
        have hc1 := hS.c1
        have hf0 := hS.f0
        have hf1 := hS.f1
        have hmax := Kd.C_max hS.row
        have hcap := hS.cap
        have HS := Aside0.mk hS
        have HB := Aside0.mk hb1
        have HF := Aside0.mk hf
        clear hS hb1 hf HB0 HR0
        have hwl : IntKind.u64.wrap ((numS s).2.1.length : Int) = (numS s).2.1.length := by rw [wrap_u64]; omega
        have cl' : ¬ ((numS s).2.1.length : Int) < (numS s).1 := by omega
        obtain ⟨i5, hi5, hs5⟩ := info5i
        have hcut1 := cut_to (P := Try.prog) 32 5 .u64 Try.underlying32 hi5 A (numS s).2.1.length c (numS s).1 hb.1 cl hcap
        have hcut2 := cut_from (P := Try.prog) 32 5 .u64 Try.underlying32 hi5 1 hs5 A (numS s).2.1.length c (numS s).1 hb.1 cl
        obtain ⟨A2, hA2⟩ : ∃ A2, A2 = (if c = (numS s).1.toNat then A else A.map (·.add ((numS s).1.toNat * 1))) := ⟨_, rfl⟩
        rw [← hA2] at hcut2
        have hd := HS.out.cut (numS s).1.toNat (by omega)
        rw [← hA2] at hd
        have ht := Kd.C_take HS.out.row (m := (numS s).1.toNat) (by omega)
        have htl : ((numS s).2.1.take (numS s).1.toNat).length = (numS s).1.toNat := by rw [List.length_take]; omega
        rw [htl] at ht
        have hcv := Kd.C_string (P := Try.prog) (c := c) Try.underlying32 Try.underlying5 Try.underlying9 ht
        rw [HCF.out] at hd
        have HD := Aside0.mk hd
        clear hd hA2 ht htl
        go_wp2
        go_ret
        rw [HE.out]
        exact ⟨rfl, ⟨_, _, HD.out⟩, HB.out.setCell hg _, (HF.out.trans ((Far.refl w1 (fun k => k = g)).setCell (p := ⟨g, 0, none⟩) (.inr rfl) _) (fun _ _ h => h))⟩
      · have cn' : ¬ lim < (numS s).1 := by unfold limV at cn; rw [if_neg l0] at cn; exact cn
        have hw : IntKind.u64.wrap lim = lim := by rw [wrap_u64]; omega
        have HE := Aside0.mk (textS_good lim s cf cn cl)
        have HCF := Aside0.mk cf
        clear cn cf
        go_enter Try.func76, Try.ntmps76
        go_wp2_with fail
        refine (XNumS.calls B g s w0 w hl HB0.out hg HR0.out).mono ?_
        rintro e w1 ⟨rfl, hr, hb1, hf⟩
        obtain ⟨A, c, hS⟩ := hr
        have hc0 := hS.c0
        have hc1 := hS.c1
        have hf0 := hS.f0
        have hf1 := hS.f1
        have hmax := Kd.C_max hS.row
        have hcap := hS.cap
        have HS := Aside0.mk hS
        have HB := Aside0.mk hb1
        have HF := Aside0.mk hf
        clear hS hb1 hf HB0 HR0
        have hwl : IntKind.u64.wrap ((numS s).2.1.length : Int) = (numS s).2.1.length := by rw [wrap_u64]; omega
        have cl' : ¬ ((numS s).2.1.length : Int) < (numS s).1 := by omega
        obtain ⟨i5, hi5, hs5⟩ := info5i
        have hcut1 := cut_to (P := Try.prog) 32 5 .u64 Try.underlying32 hi5 A (numS s).2.1.length c (numS s).1 hb.1 cl hcap
        have hcut2 := cut_from (P := Try.prog) 32 5 .u64 Try.underlying32 hi5 1 hs5 A (numS s).2.1.length c (numS s).1 hb.1 cl
        obtain ⟨A2, hA2⟩ : ∃ A2, A2 = (if c = (numS s).1.toNat then A else A.map (·.add ((numS s).1.toNat * 1))) := ⟨_, rfl⟩
        rw [← hA2] at hcut2
        have hd := HS.out.cut (numS s).1.toNat (by omega)
        rw [← hA2] at hd
        have ht := Kd.C_take HS.out.row (m := (numS s).1.toNat) (by omega)
        have htl : ((numS s).2.1.take (numS s).1.toNat).length = (numS s).1.toNat := by rw [List.length_take]; omega
        rw [htl] at ht
        have hcv := Kd.C_string (P := Try.prog) (c := c) Try.underlying32 Try.underlying5 Try.underlying9 ht
        rw [HCF.out] at hd
        have HD := Aside0.mk hd
        clear hd hA2 ht htl
        go_wp2
        go_ret
        rw [HE.out]
        exact ⟨rfl, ⟨_, _, HD.out⟩, HB.out.setCell hg _, (HF.out.trans ((Far.refl w1 (fun k => k = g)).setCell (p := ⟨g, 0, none⟩) (.inr rfl) _) (fun _ _ h => h))⟩
    · by_cases l0 : lim < 0
      · have cn' : ¬ 0 < (numS s).1 := by unfold limV at cn; rw [if_pos l0] at cn; exact cn
        exact absurd (show (numS s).1 ≤ (numS s).2.1.length by omega) cl
      · have cn' : ¬ lim < (numS s).1 := by unfold limV at cn; rw [if_neg l0] at cn; exact cn
        have hw : IntKind.u64.wrap lim = lim := by rw [wrap_u64]; omega
        have HE := Aside0.mk (textS_short lim s cf cn cl)
        have HCF := Aside0.mk cf
        clear cn cf
        go_enter Try.func76, Try.ntmps76
        go_wp2_with fail
        refine (XNumS.calls B g s w0 w hl HB0.out hg HR0.out).mono ?_
        rintro e w1 ⟨rfl, hr, hb1, hf⟩
        obtain ⟨A, c, hS⟩ := hr
        have hc0 := hS.c0
        have hc1 := hS.c1
        have hf0 := hS.f0
        have hf1 := hS.f1
        have hmax := Kd.C_max hS.row
        have hcap := hS.cap
        have HS := Aside0.mk hS
        have HB := Aside0.mk hb1
        have HF := Aside0.mk hf
        clear hS hb1 hf HB0 HR0
        have hwl : IntKind.u64.wrap ((numS s).2.1.length : Int) = (numS s).2.1.length := by rw [wrap_u64]; omega
        have cl' : ((numS s).2.1.length : Int) < (numS s).1 := by omega
        go_wp2
        go_ret
        rw [HE.out]
        exact ⟨by rw [strE]; rfl, ⟨_, _, HS.out.setF 3⟩, HB.out.setCell hg _, (HF.out.trans ((Far.refl w1 (fun k => k = g)).setCell (p := ⟨g, 1, none⟩) (.inr rfl) _) (fun _ _ h => h))⟩
set_option maxHeartbeats 8000000 in
set_option maxRecDepth 100000 in
theorem XBoolS.calls (B g : Nat) (s : List Int × Int) (w0 w : World) (hl : ∀ x ∈ s.1, 0 ≤ x ∧ x < 256) (hB : Below B w0 w) (hg : B ≤ g) (hR : XdP g s.1 s.2 w) :
    Calls Try.prog 77 #[.pointer (some ⟨g, 0, none⟩)] w (XQ B g (.bool (boolS s).1) (boolS s).2 w0 w) := by
  go_enter Try.func77, Try.ntmps77
  go_wp2_with fail
  refine (Xone.calls B g s.1 s.2 w0 w hl hB hg hR).mono ?_
  rintro e w1 ⟨hb1, hf, h1⟩
  have HB := Aside0.mk hb1
  have HF := Aside0.mk hf
  clear hb1 hf hB hR
  by_cases c : s.2 = 0
  · rw [if_pos c] at h1
    cases hs : s.1 with
    | nil =>
      rw [hs] at h1
      obtain ⟨rfl, hr⟩ := h1
      have e : boolS s = (false, [], 3) := by unfold boolS takeS; rw [if_neg (by rw [hs]; simp), if_pos c, hs]
      have HE := Aside0.mk e
      have HR := Aside0.mk hr
      clear e hr
      go_wp2
      go_ret
      rw [HE.out]
      exact ⟨rfl, HR.out, HB.out, HF.out⟩
    | cons b t =>
      rw [hs] at h1
      obtain ⟨rfl, hr⟩ := h1
      have e : boolS s = (b == 1, if 1 < b then badS (t, 0) else (t, 0)) := by
        unfold boolS takeS
        rw [if_pos ⟨c, by rw [hs]; simp only [List.length_cons]; omega⟩, hs]
        simp
      have HE := Aside0.mk e
      have HR := Aside0.mk hr
      clear e hr
      by_cases d : 1 < b
      · have d1 : decide (1 < b) = true := decide_eq_true d
        have d2 : (b == 1) = false := beq_eq_false_iff_ne.mpr (by omega)
        go_wp2_with fail
        refine (Xbad.calls B g _ _ w0 w1 HB.out hg HR.out).mono ?_
        rintro e w2 ⟨rfl, hr2, hb2, hf2⟩
        have HR2 := Aside0.mk (show XdP g t 4 w2 from hr2)
        have HB2 := Aside0.mk hb2
        have HF2 := Aside0.mk (HF.out.trans hf2 (fun _ _ h => h))
        clear hr2 hb2 hf2 HB HF HR
        go_wp2
        go_ret
        rw [HE.out, if_pos d]
        exact ⟨by show _ = Ending.returned (.bool (b == 1)); rw [d2]; rfl, HR2.out, HB2.out, HF2.out⟩
      · have d1 : decide (1 < b) = false := decide_eq_false d
        have HD := Aside0.mk d
        clear d
        go_wp2
        go_ret
        rw [HE.out, if_neg (by have := HD.out; omega)]
        exact ⟨rfl, HR.out, HB.out, HF.out⟩
  · rw [if_neg c] at h1
    obtain ⟨rfl, hr⟩ := h1
    have e : boolS s = (false, s.1, s.2) := by unfold boolS takeS; rw [if_neg (fun h => c h.1), if_neg c]
    have HE := Aside0.mk e
    have HR := Aside0.mk hr
    clear e hr
    go_wp2
    go_ret
    rw [HE.out]
    exact ⟨rfl, HR.out, HB.out, HF.out⟩
end Wr
end Go.Proofs.Ytjegkfdcelodeaa.P
