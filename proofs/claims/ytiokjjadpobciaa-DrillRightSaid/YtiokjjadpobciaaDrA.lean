import Derived.Test.YtiokjjadpobciaaDr9
namespace Go.Proofs.Ytiokjjadpobciaa.P
open Go.RowKit Go.Conc Go.Proofs.YtiokjjadpobciaaW.PrintWords Go.Proofs.YtiokjjadpobciaaW.PrintLast Go.Proofs.YtiokjjadpobciaaW.PrintMore
attribute [local go_sem] max2_int min2_int max_two min_two max_three min_three max_four min_four
set_option linter.unusedVariables false
set_option linter.unusedSimpArgs false
namespace Dr
open Ln
theorem R_rowS {w : World} {B : Nat} {ok : Nat → Prop} {v : Value} {xs : List Sx} (h : Kd.R stepD 66 w B ok v xs) (hx : 0 < xs.length) : ∃ g c, v = .slice (some ⟨g, 0, none⟩) xs.length c ∧ g < w.heap.size ∧ RowS w g xs := by
  obtain ⟨inner, ho⟩ := Kd.R_own h
  rcases ho.2 with ⟨rfl, h0⟩ | ⟨g, cap, cur, rfl, _, hg, _⟩
  · have e := (Kd.R_reads' h).1
    omega
  · refine ⟨g, cap, rfl, blk_lt hg, fun i hi => ?_⟩
    obtain ⟨ad, c, e, _, hK, hcell⟩ := Kd.C_get (Kd.R_reads' h).2.2 ⟨0, 0, [], false, []⟩ (i : Int) (by omega) (by omega)
    have e2 : xs.getD (i : Int).toNat ⟨0, 0, [], false, []⟩ = xs[i] := by simp [List.getD_eq_getElem?_getD, hi]
    rw [e2] at hK
    obtain ⟨Af, cf, Al, cl, hc, -, hf, -, hl⟩ := stepD_K hK
    obtain rfl := Option.some.inj e
    refine ⟨Af, cf, Al, cl, hf, hl, fun j u hj => ?_⟩
    have := hcell j u (by rw [hc]; exact hj)
    rw [add_p, Int.toNat_natCast] at this
    simpa [stepD_sz] using this
set_option maxHeartbeats 8000000 in
set_option maxRecDepth 100000 in
theorem EqualFunc_nil.calls (A1 A2 : Option Addr) (c1 c2 : Nat) (w : World) :
    Calls Try.prog 38 #[.slice A1 0 c1, .slice A2 0 c2, .func (.func 39) #[] #[]] w fun e w' => e = .returned (.bool true) ∧ Below w.heap.size w w' := by
  go_enter Try.func38, Try.ntmps38
  go_wp2
  go_loopw [7, 8, 9, 17] (fun x7 x8 x9 x17 wr => x17 = .int .i64 0 ∧ wr = w) (fun _ _ _ x17 _ => 0)
  case atStart => exact ⟨rfl, rfl⟩
  case round =>
    obtain ⟨rfl, rfl⟩ := hrel
    go_wp2
    go_ret
    exact ⟨rfl, Below.refl _ _⟩
set_option maxHeartbeats 8000000 in
set_option maxRecDepth 100000 in
theorem Same.calls (ga gb c1 c2 : Nat) (l : List Sx) (w : World) (hga : ga < w.heap.size) (hgb : gb < w.heap.size) (h1 : RowS w ga l) (h2 : RowS w gb l) (hl : l.length ≤ 100000) (hs : short l) :
    Calls Try.prog 23 #[.slice (some ⟨ga, 0, none⟩) l.length c1, .slice (some ⟨gb, 0, none⟩) l.length c2] w fun e w' => e = .returned (.bool true) ∧ Below w.heap.size w w' := by
  have HE := Aside0.mk (EqualFunc.calls ga gb c1 c2 l w hga hgb h1 h2 hl hs)
  clear hga hgb h1 h2 hl hs
  go_enter Try.func23, Try.ntmps23
  go_wp2_with fail
  refine HE.out.mono ?_
  rintro e w2 ⟨rfl, hb⟩
  have HB := Aside0.mk hb
  clear hb
  go_wp2
  go_ret
  exact ⟨rfl, HB.out⟩
set_option maxHeartbeats 8000000 in
set_option maxRecDepth 100000 in
theorem Same_nil.calls (A1 A2 : Option Addr) (c1 c2 : Nat) (w : World) :
    Calls Try.prog 23 #[.slice A1 0 c1, .slice A2 0 c2] w fun e w' => e = .returned (.bool true) ∧ Below w.heap.size w w' := by
  go_enter Try.func23, Try.ntmps23
  go_wp2_with fail
  refine (EqualFunc_nil.calls A1 A2 c1 c2 w).mono ?_
  rintro e w2 ⟨rfl, hb⟩
  have HB := Aside0.mk hb
  clear hb
  go_wp2
  go_ret
  exact ⟨rfl, HB.out⟩
end Dr
end Go.Proofs.Ytiokjjadpobciaa.P
