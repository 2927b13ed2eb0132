import Derived.Test.YtiokjjadpobciaaDr2
import Derived.Test.YtiokjjadpobciaaEq
namespace Go.Proofs.Ytiokjjadpobciaa.P
open Go.RowKit Go.Conc Go.Proofs.YtiokjjadpobciaaW.PrintWords Go.Proofs.YtiokjjadpobciaaW.PrintLast Go.Proofs.YtiokjjadpobciaaW.PrintMore
attribute [local go_sem] max2_int min2_int max_two min_two max_three min_three max_four min_four
set_option linter.unusedVariables false
set_option linter.unusedSimpArgs false
namespace Dr
open Ln
theorem atF {w : World} {ad : Addr} {l : List Fa} (h : Kd.C factK w (some ad) l.length l) (i : Nat) (d : i < l.length) : w.cell? (ad.add (i * 6)) = some (.int .i64 l[i].h) ∧ w.cell? ⟨(ad.add (i * 6)).block, (ad.add (i * 6)).off + 1, none⟩ = some (.string l[i].a) ∧ w.cell? ⟨(ad.add (i * 6)).block, (ad.add (i * 6)).off + 2, none⟩ = some (.string l[i].b) ∧ w.cell? ⟨(ad.add (i * 6)).block, (ad.add (i * 6)).off + 3, none⟩ = some (.string { data := #[] }) ∧ w.cell? ⟨(ad.add (i * 6)).block, (ad.add (i * 6)).off + 4, none⟩ = some (.string { data := #[] }) ∧ w.cell? ⟨(ad.add (i * 6)).block, (ad.add (i * 6)).off + 5, none⟩ = some (.int .i64 l[i].v) := by
  obtain ⟨ad', c, e, _, hK, hc0⟩ := Kd.C_get h ⟨0, { data := #[] }, { data := #[] }, 0⟩ (i : Int) (by omega) (by omega)
  obtain rfl := Option.some.inj e
  have hc : ∀ j u, c[j]? = some u → w.cell? (ad.add (i * 6 + j)) = some u := hc0
  have e2 : l.getD (i : Int).toNat ⟨0, { data := #[] }, { data := #[] }, 0⟩ = l[i] := by simp [List.getD_eq_getElem?_getD, d]
  rw [e2] at hK
  have hK' : c = l[i].list := hK
  subst hK'
  exact ⟨hc 0 _ rfl, by rw [← add_field _ _ 1 (by omega)]; exact hc 1 _ rfl, by rw [← add_field _ _ 2 (by omega)]; exact hc 2 _ rfl, by rw [← add_field _ _ 3 (by omega)]; exact hc 3 _ rfl, by rw [← add_field _ _ 4 (by omega)]; exact hc 4 _ rfl, by rw [← add_field _ _ 5 (by omega)]; exact hc 5 _ rfl⟩
theorem eq59 (W : World) (a0 a1 a2 a3 : ByteArray) : (Op.equalIn 9998 59 (.agg #[.string a0, .string a1, .string a2, .string a3]) (.agg #[.string a0, .string a1, .string a2, .string a3])).run Try.prog W = .ok true W := by
  have h : ∀ a : ByteArray, (Op.equalIn 9997 9 (.string a) (.string a)).run Try.prog W = .ok true W := fun a => by rw [run_equalIn_string W 9996 9 a a Try.underlying9]; simp
  exact eq_arr4 W 9997 Try.underlying59 (by kernel_rfl) (by kernel_rfl) (by kernel_rfl) _ _ _ _ _ _ _ _ true true true true (h _) (h _) (h _) (h _)
set_option maxHeartbeats 8000000 in
set_option maxRecDepth 100000 in
theorem eq88 (W : World) (f : Fa) : (Op.equalIn 10000 88 (.agg #[.int .i64 f.h, .string f.a, .string f.b, .string { data := #[] }, .string { data := #[] }, .int .i64 f.v]) (.agg #[.int .i64 f.h, .string f.a, .string f.b, .string { data := #[] }, .string { data := #[] }, .int .i64 f.v])).run Try.prog W = .ok true W := by
  have h := eq59 W f.a f.b { data := #[] } { data := #[] }
  have c59 : Try.prog.cellsOf 59 = 4 := by kernel_rfl
  have c86 : Try.prog.cellsOf 86 = 5 := by kernel_rfl
  go_simp
set_option maxHeartbeats 8000000 in
set_option maxRecDepth 100000 in
theorem EqualB.calls (A1 A2 : Option Addr) (c1 c2 : Nat) (l : List Bool) (w : World) (h1 : Kd.C Kd.bool w A1 l.length l) (h2 : Kd.C Kd.bool w A2 l.length l) (hl : l.length ≤ 100000) :
    Calls Try.prog 41 #[.slice A1 l.length c1, .slice A2 l.length c2] w fun e w' => e = .returned (.bool true) ∧ Below w.heap.size w w' := by
  have H1 := Aside0.mk h1
  have H2 := Aside0.mk h2
  clear h1 h2
  go_enter Try.func41, Try.ntmps41
  go_wp2
  go_loopw [5, 13] (fun x5 x13 wr => ∃ i : Nat, x13 = .int .i64 i ∧ i ≤ l.length ∧ Aside0 (Below w.heap.size w wr)) (fun _ x13 _ => l.length - (intOf x13).toNat)
  case atStart => exact ⟨0, rfl, by omega, ⟨Below.refl _ _⟩⟩
  case round =>
    obtain ⟨i, rfl, hi, HB⟩ := hrel
    by_cases d : i < l.length
    · have dl : decide ((i : Int) < (l.length : Int)) = true := decide_eq_true (by omega)
      have b1 : (0 : Int) ≤ (i : Int) := by omega
      have b2 : (i : Int) < (l.length : Int) := by omega
      have hw : wrap64 ((i : Int) + 1) = ((i + 1 : Nat) : Int) := by unfold wrap64; omega
      obtain ⟨ad1, rfl, k1⟩ := Kd.at_bool (Kd.C_below H1.out HB.out) (i : Int) b1 b2
      obtain ⟨ad2, rfl, k2⟩ := Kd.at_bool (Kd.C_below H2.out HB.out) (i : Int) b1 b2
      rw [Int.toNat_natCast] at k1 k2
      generalize rdOf false l (i : Int) = b at k1 k2
      cases b
      all_goals
        (go_wp2_with fail
         go_quiet (fail)
         have HB2 := Aside0.mk (pw_below_drewN HB.out nq)
         clear k1 k2 HB
         go_wp2
         go_roundw
         case rel => exact ⟨i + 1, rfl, by omega, HB2⟩
         case measure => simp only [intOf]; omega)
    · have hil : i = l.length := by omega
      have dl : decide ((i : Int) < (l.length : Int)) = false := decide_eq_false (by omega)
      go_wp2
      go_ret
      exact ⟨rfl, HB.out⟩
set_option maxHeartbeats 8000000 in
set_option maxRecDepth 100000 in
theorem EqualF.calls (A1 A2 : Option Addr) (c1 c2 : Nat) (l : List Fa) (w : World) (h1 : Kd.C factK w A1 l.length l) (h2 : Kd.C factK w A2 l.length l) (hl : l.length ≤ 100000) :
    Calls Try.prog 40 #[.slice A1 l.length c1, .slice A2 l.length c2] w fun e w' => e = .returned (.bool true) ∧ Below w.heap.size w w' := by
  have H1 := Aside0.mk h1
  have H2 := Aside0.mk h2
  clear h1 h2
  have hek : ∀ (W : World) (f : Fa), (Op.equalIn 10000 88 (.agg #[.int .i64 f.h, .string f.a, .string f.b, .string { data := #[] }, .string { data := #[] }, .int .i64 f.v]) (.agg #[.int .i64 f.h, .string f.a, .string f.b, .string { data := #[] }, .string { data := #[] }, .int .i64 f.v])).run Try.prog W = .ok true W := eq88
  go_enter Try.func40, Try.ntmps40
  go_wp2
  go_loopw [5, 13] (fun x5 x13 wr => ∃ i : Nat, x13 = .int .i64 i ∧ i ≤ l.length ∧ Aside0 (Below w.heap.size w wr)) (fun _ x13 _ => l.length - (intOf x13).toNat)
  case atStart => exact ⟨0, rfl, by omega, ⟨Below.refl _ _⟩⟩
  case round =>
    obtain ⟨i, rfl, hi, HB⟩ := hrel
    by_cases d : i < l.length
    · have dl : decide ((i : Int) < (l.length : Int)) = true := decide_eq_true (by omega)
      have b1 : (0 : Int) ≤ (i : Int) := by omega
      have b2 : (i : Int) < (l.length : Int) := by omega
      have hw : wrap64 ((i : Int) + 1) = ((i + 1 : Nat) : Int) := by unfold wrap64; omega
      obtain ⟨ad1, _, rfl, -⟩ := Kd.C_get H1.out ⟨0, { data := #[] }, { data := #[] }, 0⟩ (i : Int) b1 b2
      obtain ⟨ad2, _, rfl, -⟩ := Kd.C_get H2.out ⟨0, { data := #[] }, { data := #[] }, 0⟩ (i : Int) b1 b2
      obtain ⟨f0, f1, f2, f3, f4, f5⟩ := atF (Kd.C_below H1.out HB.out) i d
      obtain ⟨k0, k1, k2, k3, k4, k5⟩ := atF (Kd.C_below H2.out HB.out) i d
      generalize l[i] = fx at f0 f1 f2 f3 f4 f5 k0 k1 k2 k3 k4 k5
      go_wp2_with fail
      go_quiet (fail)
      have HB2 := Aside0.mk (pw_below_drewN HB.out nq)
      clear f0 f1 f2 f3 f4 f5 k0 k1 k2 k3 k4 k5 HB
      go_wp2
      go_roundw
      case rel => exact ⟨i + 1, rfl, by omega, HB2⟩
      case measure => simp only [intOf]; omega
    · have hil : i = l.length := by omega
      have dl : decide ((i : Int) < (l.length : Int)) = false := decide_eq_false (by omega)
      go_wp2
      go_ret
      exact ⟨rfl, HB.out⟩
end Dr
end Go.Proofs.Ytiokjjadpobciaa.P
