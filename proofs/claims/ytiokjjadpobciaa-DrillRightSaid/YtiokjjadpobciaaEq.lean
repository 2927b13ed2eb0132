import Derived.Test.YtiokjjadpobciaaLn0
import Derived.ChangeKeysEq
import Derived.Laws.StructEq
namespace Go.Proofs.Ytiokjjadpobciaa.P
open Go.RowKit Go.Conc Go.Proofs.YtiokjjadpobciaaW.PrintWords Go.Proofs.YtiokjjadpobciaaW.PrintLast Go.Proofs.YtiokjjadpobciaaW.PrintMore
/-- Two arrays of four one-cell elements, compared. -/
theorem eq_arr4 {P : Program} (W : World) (d : Nat) {t e : TypeId} (hu : P.underlying t = some (.array 4 e)) (hi : (P.info? e).isSome = true) (he : P.plainKey e = true) (hc : P.cellsOf e = 1)
    (a0 a1 a2 a3 b0 b1 b2 b3 : Value) (r0 r1 r2 r3 : Bool) (h0 : (Op.equalIn d e a0 b0).run P W = .ok r0 W) (h1 : (Op.equalIn d e a1 b1).run P W = .ok r1 W) (h2 : (Op.equalIn d e a2 b2).run P W = .ok r2 W) (h3 : (Op.equalIn d e a3 b3).run P W = .ok r3 W) :
    (Op.equalIn (d + 1) t (.agg #[a0, a1, a2, a3]) (.agg #[b0, b1, b2, b3])).run P W = .ok (r0 && r1 && r2 && r3) W := by
  obtain ⟨i, hi⟩ := Option.isSome_iff_exists.1 hi
  rw [run_equalIn_array W d _ _ hu hi, hc]
  have hl : List.range 4 = [0, 1, 2, 3] := rfl
  rw [hl]
  have p : ∀ (x0 x1 x2 x3 v : Value) (j : Nat), #[x0, x1, x2, x3][j]? = some v → (part e #[x0, x1, x2, x3] j).run P W = .ok v W := fun x0 x1 x2 x3 v j h => run_part_plain W he h
  have pa0 := p a0 a1 a2 a3 a0 0 rfl
  have pa1 := p a0 a1 a2 a3 a1 1 rfl
  have pa2 := p a0 a1 a2 a3 a2 2 rfl
  have pa3 := p a0 a1 a2 a3 a3 3 rfl
  have pb0 := p b0 b1 b2 b3 b0 0 rfl
  have pb1 := p b0 b1 b2 b3 b1 1 rfl
  have pb2 := p b0 b1 b2 b3 b2 2 rfl
  have pb3 := p b0 b1 b2 b3 b3 3 rfl
  clear p
  cases r0 <;> cases r1 <;> cases r2 <;> cases r3 <;> simp [Op.eqItems, pa0, pa1, pa2, pa3, pb0, pb1, pb2, pb3, h0, h1, h2, h3]
theorem eq58f (W : World) : (Op.equalIn 9999 58 (.agg #[.bool false, .bool false, .bool false, .bool false]) (.agg #[.bool false, .bool false, .bool false, .bool false])).run Try.prog W = .ok true W :=
  eq_arr4 W 9998 Try.underlying58 (by kernel_rfl) (by kernel_rfl) (by kernel_rfl) _ _ _ _ _ _ _ _ true true true true (run_equalIn_bool' W 9997 4 false false Try.underlying4) (run_equalIn_bool' W 9997 4 false false Try.underlying4) (run_equalIn_bool' W 9997 4 false false Try.underlying4) (run_equalIn_bool' W 9997 4 false false Try.underlying4)
theorem eq9e (W : World) (a : ByteArray) : (Op.equalIn 9998 9 (.string a) (.string a)).run Try.prog W = .ok true W := by
  rw [run_equalIn_string W 9997 9 a a Try.underlying9]
  simp
theorem eq59f (W : World) : (Op.equalIn 9999 59 (.agg #[.string { data := #[] }, .string { data := #[] }, .string { data := #[] }, .string { data := #[] }]) (.agg #[.string { data := #[] }, .string { data := #[] }, .string { data := #[] }, .string { data := #[] }])).run Try.prog W = .ok true W :=
  eq_arr4 W 9998 Try.underlying59 (by kernel_rfl) (by kernel_rfl) (by kernel_rfl) _ _ _ _ _ _ _ _ true true true true (eq9e W _) (eq9e W _) (eq9e W _) (eq9e W _)
end Go.Proofs.Ytiokjjadpobciaa.P
