import Derived.Test.YtjegkfdcelodeaaWp
import Derived.Lib.Builder
namespace Go.Proofs.Ytjegkfdcelodeaa.P
open Go.RowKit Go.Proofs.Ytjegkfdcelodeaa.Pol Go.Proofs.YtjegkfdcelodeaaW.PrintWords Go.Proofs.YtjegkfdcelodeaaW.PrintLast Go.Proofs.YtjegkfdcelodeaaW.PrintMore
attribute [local go_sem] max2_int min2_int max_two min_two max_three min_three max_four min_four
set_option linter.unusedVariables false
set_option linter.unusedSimpArgs false
namespace Wr
/-- The cells of an element. -/
theorem at52 {w : World} {ad : Addr} {l : List S52} (h : Kd.C k52 w (some ad) l.length l) (i : Nat) (d : i < l.length) : w.cell? (ad.add (i * 6)) = some (.int .i64 l[i].f0) ∧ w.cell? ⟨(ad.add (i * 6)).block, (ad.add (i * 6)).off + 1, none⟩ = some (.int .i64 l[i].f1) ∧ w.cell? ⟨(ad.add (i * 6)).block, (ad.add (i * 6)).off + 2, none⟩ = some (.int .u64 l[i].f2) ∧ w.cell? ⟨(ad.add (i * 6)).block, (ad.add (i * 6)).off + 3, none⟩ = some (.int .i64 l[i].f3) ∧ w.cell? ⟨(ad.add (i * 6)).block, (ad.add (i * 6)).off + 4, none⟩ = some (.string l[i].f4) ∧ w.cell? ⟨(ad.add (i * 6)).block, (ad.add (i * 6)).off + 5, none⟩ = some (.bool l[i].f5) := by
  obtain ⟨ad', e1, f0, f1, f2, f3, f4, f5⟩ := at_T52 h (i : Int) (by omega) (by omega)
  obtain rfl := Option.some.inj e1
  have e : rd_T52 l (i : Int) = l[i] := by simp [rd_T52, List.getD_eq_getElem?_getD, d]
  rw [e, Int.toNat_natCast] at f0 f1 f2 f3 f4 f5
  exact ⟨f0, f1, f2, f3, f4, f5⟩
theorem R_only {α : Type} {enc : α → Value} {h1 : ∀ x, (enc x).oneCell' = true} {e : Nat} {w : World} {base : Nat} {ok : Nat → Prop} {v : Value} {xs : List α} (h : (Kd.scalar enc h1).R e w base ok v xs) : (Kd.scalar enc h1).R e w base (fun k => ok k ∧ v.ownBlock = some k) v xs :=
  ⟨fun k hk => ⟨h.1 k hk, hk⟩, h.2⟩
theorem R_lt' {α : Type} {d : Kd α} {e : Nat} {w : World} {base : Nat} {ok : Nat → Prop} {v : Value} {xs : List α} (h : d.R e w base ok v xs) (k : Nat) (hk : v.ownBlock = some k) : k < w.heap.size := ((Kd.R_bound h).1 k hk).2.2.1
/-- The writer's bytes, while another row of bytes is written. -/
theorem WrS.other {B g : Nat} {v u : Value} {X : List Int} {W w1 : World} (h : WrS B g v X W) (hg : W.grownBy w1 u.ownBlock) (hn : ∀ k, v.ownBlock = some k → u.ownBlock ≠ some k) (hu : u.ownBlock ≠ some g) : WrS B g v X w1 :=
  ⟨blk_grown h.blk hg (fun e => hu e.symm), Kd.R_mono (Kd.R_grown (R_only h.row) hg (fun k hk e => hn k hk.2 e.symm)) (fun _ hk => hk.1)⟩
/-- The other row of bytes, while the writer writes. -/
theorem R_other {B g : Nat} {v u : Value} {Y : List Int} {W w1 : World} (h : Kd.R (Kd.int .u8) 5 W B (fun k => k ≠ g) u Y) (hf : Far W w1 (fun k => k = g ∨ some k = v.ownBlock)) (hn : ∀ k, v.ownBlock = some k → u.ownBlock ≠ some k) : Kd.R (Kd.int .u8) 5 w1 B (fun k => k ≠ g) u Y :=
  Kd.R_mono (Kd.R_step (R_only h) (fun k hk hlt => hf.block k hlt (fun e => by rcases e with e | e; exact hk.1 e; exact hn k e.symm hk.2))) (fun _ hk => hk.1)
theorem neq_same (a : Addr) (W : World) : (binOp .neq 38 (.pointer (some a)) (.pointer (some a))).run Try.prog W = .ok (.bool false) W := by
  have h : (Try.prog.info? 40).isSome = true := by kernel_rfl
  obtain ⟨j, hj⟩ := Option.isSome_iff_exists.1 h
  exact Lib.run_neq_ptr_same W a Try.underlying38 hj
theorem same_eq (l : List Int) : ossuaryref01_Same.f l l = some true := by
  unfold ossuaryref01_Same.f
  simp
set_option maxHeartbeats 8000000 in
set_option maxRecDepth 100000 in
theorem pp.main (A : Option Addr) (c : Nat) (l : List S52) (w : World) (hC : Kd.C k52 w A l.length l) (hc : l.length ≤ c) (ho : ∀ p ∈ l, okS p) (hl : lightV l = true) :
    Calls Try.prog 7 #[.slice A l.length c] w fun e w' => e = .returned (.bool true) ∧ Below w.heap.size w w' := by
  obtain ⟨hl1, hl2⟩ := lightV_spec hl
  have HC := Aside0.mk hC
  have HE := Aside0.mk (light_eq l)
  rw [hl] at HE
  have HP := Aside0.mk (show ∀ p ∈ l, okS p ∧ p.f4.size ≤ 60 from fun p hp => ⟨ho p hp, hl2 p hp⟩)
  clear hC ho hl2 hl
  go_enter Try.func7, Try.ntmps7
  go_wp2_with fail
  refine (ossuarylaw01_light.calls 50 A c l true w HC.out hc HE.out).mono ?_
  rintro e w1 ⟨rfl, hd⟩
  have HB := Aside0.mk (hd.below.alloc hd.below.size (.cells #[.slice none 0 0] 40 (0, 0)))
  have HW := Aside0.mk (show WrS w.heap.size w1.heap.size (.slice none 0 0) [] (w1.alloc (.cells #[.slice none 0 0] 40 (0, 0))) from ⟨blk_new w1 _, Kd.R_nil _ _ _ _ _⟩)
  have hg : w.heap.size ≤ w1.heap.size := hd.below.size
  clear hd HE
  go_wp2
  generalize hgg : w1.heap.size = g at HW hg ⊢
  go_loopw [6, 5] (fun x6 x5 wr => ∃ (i : Nat) (v : Value), x6 = .int .i64 i ∧ i ≤ l.length ∧ Aside0 (WrS w.heap.size g v (putsB (l.take i)) wr) ∧ Aside0 (Kd.R (Kd.int .u8) 5 wr w.heap.size (fun k => k ≠ g) x5 (putsB (l.take i))) ∧ Aside0 (∀ k, v.ownBlock = some k → x5.ownBlock ≠ some k) ∧ Aside0 (Below w.heap.size w wr)) (fun x6 _ _ => l.length - (intOf x6).toNat)
  case atStart => exact ⟨0, _, rfl, by omega, by simpa [putsB] using HW, ⟨Kd.R_nil _ _ _ _ _⟩, ⟨by simp [Value.ownBlock]⟩, HB⟩
  case round =>
    clear HW HB
    obtain ⟨i, v, rfl, hi, HW, HR, HN, HB⟩ := hrel
    obtain ⟨Aw, cw, hw5⟩ := Kd.R_slice HR.out
    subst hw5
    by_cases d : i < l.length
    · have dl : decide ((i : Int) < (l.length : Int)) = true := decide_eq_true (by omega)
      have b1 : (0 : Int) ≤ (i : Int) := by omega
      have b2 : (i : Int) < (l.length : Int) := by omega
      have hw : wrap64 ((i : Int) + 1) = ((i + 1 : Nat) : Int) := by unfold wrap64; omega
      obtain ⟨ad, cc, rfl, -⟩ := Kd.C_get HC.out z52 (i : Int) b1 b2
      obtain ⟨f0, f1, f2, f3, f4, f5⟩ := at52 (Kd.C_below HC.out HB.out) i d
      have hp := HP.out l[i] (List.getElem_mem d)
      have hlen1 := putsB_len (l.take i) (fun q hq => HP.out q (List.mem_of_mem_take hq))
      rw [List.length_take] at hlen1
      have hlen2 := partS_len l[i] hp.1 hp.2
      have HF := Aside0.mk (form_eq l[i] hp.1 (by omega))
      have HO := Aside0.mk hp
      have hsz : w.heap.size ≤ wr.heap.size := HB.out.size
      clear hp
      go_wp2_with fail
      clear f0 f1 f2 f3 f4 f5
      refine (ossuarylaw01_form.calls 100 _ _ _ _ _ _ (partS l[i]) wr HF.out).mono ?_
      rintro e w2 ⟨v2, rfl, hr2, hb2⟩
      obtain ⟨A2, c2, rfl, hc2, hC2⟩ := Kd.R_reads hr2
      have HC2 := Aside0.mk hC2
      have HW2 := Aside0.mk (HW.out.below hb2)
      have HR2 := Aside0.mk (Kd.R_below HR.out hb2)
      have HB2 := Aside0.mk (below_step HB.out hb2)
      clear hr2 hb2 hC2 HW HR HB HF
      have hs2 : w.heap.size ≤ w2.heap.size := HB2.out.size
      have hs3 := blk_lt HW2.out.blk
      go_wp2_with ((with_reducible refine gate_builtin (b := .append) (xs := #[.tmp 19, .tmp 24]) rfl ?_); at_builtin; refine Kd.R_append_rows (Kd.int .u8) (w0 := w) w.heap.size rfl (.tmp 19) (.tmp 24) 32 5 (.int .u8 0) 1 rfl Try.underlying32 info5 rfl (by decide) (by omega) (.slice Aw (putsB (l.take i)).length cw) (putsB (l.take i)) (partS l[i]) A2 (partS l[i]).length c2 (fun k => k ≠ g) (fun _ => False) rfl rfl ?aO ?aR (fun _ _ h => h) (fun _ h => h.elim) ?aF ?aB ?aS ?aL ?_; (case aF => intro k hk e; omega); (case aO => exact HR2.out); (case aR => exact HC2.out); (case aB => exact HB2.out); (case aS => exact hs2); (case aL => omega); intro v3 w3 ho3 hb3 hg3 ha3; obtain ⟨A3, c3, rfl⟩ := Kd.R_slice ho3; have HR3 := Aside0.mk ho3; have HB3 := Aside0.mk hb3; have HG3 := Aside0.mk hg3; have HA3 := Aside0.mk ha3; clear ho3 hb3 hg3 ha3; obtain ⟨f0, f1, f2, f3, f4, f5⟩ := at52 (Kd.C_below HC.out HB3.out) i d)
      clear f0 f1 f2 f3 f4 f5
      have hne : ∀ k, v.ownBlock = some k → (Value.slice A3 (putsB (l.take i) ++ partS l[i]).length c3).ownBlock ≠ some k := by
        intro k hk e
        rcases HA3.out with h | ⟨b, h, hb⟩
        · exact HN.out k hk (h.symm.trans e)
        · rw [h] at e
          injection e with e
          have := R_lt' HW2.out.row k hk
          omega
      have hug : (Value.slice Aw (putsB (l.take i)).length cw).ownBlock ≠ some g := fun e => HR2.out.1 g e rfl
      have HW3 := Aside0.mk (HW2.out.other HG3.out HN.out hug)
      have HN3 := Aside0.mk hne
      clear HW2 HR2 HB2 HG3 HA3 HN HC2 hne hug
      refine (put.calls w.heap.size g v (putsB (l.take i)) _ _ _ _ _ _ w w3 HO.out.1.1 HO.out.1.2 (by have := HO.out.2; omega) (by omega) HB3.out hg HW3.out).mono ?_
      rintro e w4 ⟨v4, rfl, hw4, hb4, hf4, hv4⟩
      have HR4 := Aside0.mk (R_other HR3.out hf4 HN3.out)
      have HW4 := Aside0.mk (show WrS w.heap.size g v4 (putsB (l.take i) ++ partS l[i]) w4 from hw4)
      have HB4 := Aside0.mk hb4
      have HN4 := Aside0.mk (show ∀ k, v4.ownBlock = some k → (Value.slice A3 (putsB (l.take i) ++ partS l[i]).length c3).ownBlock ≠ some k by
        intro k hk e
        rcases hv4 with h | ⟨b, h, hb⟩
        · exact HN3.out k (h.symm.trans hk) e
        · rw [h] at hk
          injection hk with hk
          have := R_lt' HR3.out k e
          omega)
      clear hw4 hb4 hf4 hv4 HW3 HR3 HB3 HN3
      obtain ⟨f0, f1, f2, f3, f4, f5⟩ := at52 (Kd.C_below HC.out HB4.out) i d
      have hpt := neq_same ⟨g, 0, none⟩
      go_wp2_with fail
      clear f0 f1 f2 f3 f4 f5
      refine (put_nil.calls _ _ _ _ _ _ w4).mono ?_
      rintro e w5 ⟨rfl, hb5⟩
      have HW5 := Aside0.mk (HW4.out.below hb5)
      have HR5 := Aside0.mk (Kd.R_below HR4.out hb5)
      have HB5 := Aside0.mk (below_step HB4.out hb5)
      clear HW4 HR4 HB4 hb5
      go_wp2_with fail
      refine (Bytes.calls w.heap.size g v4 _ w5 (by rw [List.length_append]; omega) HW5.out).mono ?_
      rintro e w6 ⟨v6, rfl, hr6, hb6⟩
      obtain ⟨A6, c6, rfl, hc6, hC6⟩ := Kd.R_reads hr6
      have HC6 := Aside0.mk hC6
      have HW6 := Aside0.mk (HW5.out.below hb6)
      have HR6 := Aside0.mk (Kd.R_below HR5.out hb6)
      have HB6 := Aside0.mk (below_step HB5.out hb6)
      clear HW5 HR5 HB5 hb6 hr6 hC6
      go_wp2_with fail
      obtain ⟨A7, c7, e7, hc7, hC7⟩ := Kd.R_reads HR6.out
      injection e7 with e7 _ e8
      subst e7 e8
      have hsame := ossuaryref01_Same.calls A6 c6 (putsB (l.take i) ++ partS l[i]) A3 c3 (putsB (l.take i) ++ partS l[i]) true w6 HC6.out hc6 hC7 hc7 (same_eq _)
      rw [List.length_append] at hsame
      clear hC7 HC6 hc6 hc7
      refine hsame.mono ?_
      clear hsame
      rintro e w7 ⟨rfl, hd7⟩
      have hb7 := hd7.below
      have HW7 := Aside0.mk (HW6.out.below hb7)
      have HR7 := Aside0.mk (Kd.R_below HR6.out hb7)
      have HB7 := Aside0.mk (below_step HB6.out hb7)
      clear HW6 HR6 HB6 hb7 hd7
      go_wp2_with fail
      refine (Len.calls w.heap.size g v4 _ w7 HW7.out).mono ?_
      rintro e w8 ⟨rfl, hb8⟩
      have HW8 := HW7.out.below hb8
      have HR8 := Kd.R_below HR7.out hb8
      have HB8 := Aside0.mk (below_step HB7.out hb8)
      simp only [List.length_append] at HR8 HN4
      rw [← putsB_take l i d] at HW8 HR8
      have HW8 := Aside0.mk HW8
      have HR8 := Aside0.mk HR8
      clear HW7 HR7 HB7 hb8
      have hll : (((putsB (l.take i) ++ partS l[i]).length : Nat) : Int) = ((putsB (l.take i)).length : Int) + ((partS l[i]).length : Int) := by rw [List.length_append]; omega
      rw [hll]
      go_wp2
      go_roundw
      case rel => exact ⟨i + 1, v4, rfl, by omega, HW8, HR8, HN4, HB8⟩
      case measure => simp only [intOf]; omega
    · have hil : i = l.length := by omega
      have dl : decide ((i : Int) < (l.length : Int)) = false := decide_eq_false (by omega)
      clear HW HR HN
      go_wp2_with fail
      refine (Bytes_nil.calls _).mono ?_
      rintro e w2 ⟨rfl, hb⟩
      have HB2 := Aside0.mk (below_step HB.out hb)
      clear HB hb
      go_wp2_with fail
      refine (Len_nil.calls _).mono ?_
      rintro e w3 ⟨rfl, hb⟩
      have HB3 := Aside0.mk (below_step HB2.out hb)
      clear HB2 hb
      go_wp2_with fail
      refine (alive01.calls _).mono ?_
      rintro e w4 ⟨rfl, hb⟩
      have HB4 := Aside0.mk (below_step HB3.out hb)
      clear HB3 hb
      go_wp2
      go_ret
      exact ⟨rfl, HB4.out⟩
set_option maxHeartbeats 8000000 in
set_option maxRecDepth 100000 in
theorem pp.heavy (A : Option Addr) (c : Nat) (l : List S52) (w : World) (hC : Kd.C k52 w A l.length l) (hc : l.length ≤ c) (hl : lightV l = false) :
    Calls Try.prog 7 #[.slice A l.length c] w fun e w' => e = .returned (.bool true) ∧ Below w.heap.size w w' := by
  have HC := Aside0.mk hC
  have HE := Aside0.mk (light_eq l)
  rw [hl] at HE
  clear hC hl
  go_enter Try.func7, Try.ntmps7
  go_wp2_with fail
  refine (ossuarylaw01_light.calls 50 A c l false w HC.out hc HE.out).mono ?_
  rintro e w1 ⟨rfl, hd⟩
  have HB := Aside0.mk hd.below
  clear hd HE
  go_wp2_with fail
  refine (alive01.calls _).mono ?_
  rintro e w4 ⟨rfl, hb⟩
  have HB4 := Aside0.mk (below_step HB.out hb)
  clear HB hb
  go_wp2
  go_ret
  exact ⟨rfl, HB4.out⟩
end Wr
def okB (p : S52) : Bool := decide (0 ≤ p.f2 ∧ p.f2 < 18446744073709551616) && decide (-9223372036854775808 ≤ p.f3 ∧ p.f3 < 9223372036854775808)
def ossuarylaw01_PackPuts.f (l : List S52) : Option Bool := if l.all okB then some true else none
open Wr in
theorem ossuarylaw01_PackPuts.calls (A : Option Addr) (c : Nat) (l : List S52) (r : Bool) (w : World) (hC : Kd.C k52 w A l.length l) (hc : l.length ≤ c) (h : ossuarylaw01_PackPuts.f l = some r) :
    Calls Try.prog 7 #[.slice A l.length c] w fun e w' => e = .returned (.bool r) ∧ Below w.heap.size w w' := by
  unfold ossuarylaw01_PackPuts.f at h
  split at h
  case isFalse => exact absurd h (by simp)
  rename_i ho
  obtain rfl := Option.some.inj h
  have ho' : ∀ p ∈ l, okS p := by
    intro p hp
    have := List.all_eq_true.1 ho p hp
    unfold okB at this
    simp at this
    exact ⟨⟨by omega, by omega⟩, by omega, by omega⟩
  cases hl : lightV l with
  | true => exact pp.main A c l w hC hc ho' hl
  | false => exact pp.heavy A c l w hC hc hl
end Go.Proofs.Ytjegkfdcelodeaa.P
