import Derived.Test.YtiokjjadpobciaaLn1
namespace Go.Proofs.Ytiokjjadpobciaa.P
open Go.RowKit Go.Conc Go.Proofs.YtiokjjadpobciaaW.PrintWords Go.Proofs.YtiokjjadpobciaaW.PrintLast Go.Proofs.YtiokjjadpobciaaW.PrintMore
attribute [local go_sem] max2_int min2_int max_two min_two max_three min_three max_four min_four
set_option linter.unusedVariables false
set_option linter.unusedSimpArgs false
namespace Ln
theorem res_s0 (c : Nat) (u z : Value) : commResult #[scase c u z] .select ((0 : Nat) : Int) undef false = .tuple #[goInt 0, .bool false] := by
  simp [commResult, scase, List.zipIdx_cons]
theorem res_sd (c : Nat) (u z : Value) : commResult #[scase c u z] .select (-1) undef false = .tuple #[goInt (-1), .bool false] := by
  simp [commResult, scase, List.zipIdx_cons]
theorem res_r0 (c : Nat) (z v : Value) (ok : Bool) : commResult #[rcase c z] .select ((0 : Nat) : Int) v ok = .tuple #[goInt 0, .bool ok, v] := by
  simp [commResult, rcase, List.zipIdx_cons]
theorem res_rd (c : Nat) (z : Value) : commResult #[rcase c z] .select (-1) undef false = .tuple #[goInt (-1), .bool false, z] := by
  simp [commResult, rcase, List.zipIdx_cons]
theorem goes_enter {P : Program} {main : Bool} {b : Frame} {a : Act} {k : List Item} {cs : List Frame} {w : World} {ops : Array Oper} {i : Nat} {rest : List Nat} {o : Oper} {K : Goroutine → World → Array Event → Prop} {f : FuncId} {fn : Func} {c : Code} {args : Array Operand} {ats : Array TypeId} {vs : Array Value}
    (ho : ops[i]? = some o) (hw : Region.wanted o (yielded ops a.tmps) = true) (hk : b.kind ≠ .early) (hop : o.op = .call { callee := .value (.func f), args, argTypes := ats })
    (hf : P.funcs[f]? = some fn) (hname : (fn.name == "runtime.NumGoroutine") = false) (hb : fn.body = some c) (hv : args.map a.eval = vs)
    (h : K (G (Frame.enter P f vs .normal) (b.at a (.inRegion ops (i :: rest) :: k) :: cs)) w #[]) :
    (stepG P main (G (b.at a (.inRegion ops (i :: rest) :: k)) cs) w).goes K := by
  refine goes_call ho hw hk hop hf hname hb ?_
  rw [← enter_at _ hf hb, hv]
  exact h
set_option maxHeartbeats 8000000 in
set_option maxRecDepth 100000 in
theorem Put_nil.calls (i x : Int) (w : World) :
    Calls Try.prog 14 #[.pointer none, .int .i64 i, .int .i64 x] w fun e w' => e = .returned (.int .i64 1) ∧ w' = w := by
  go_enter Try.func14, Try.ntmps14
  go_wp2_with fail
  refine (of_nil.calls i w).mono ?_
  rintro e w' ⟨rfl, rfl⟩
  go_wp2
  go_ret
  exact ⟨rfl, rfl⟩
set_option maxHeartbeats 8000000 in
set_option maxRecDepth 100000 in
theorem Put_out.calls (B g room : Nat) (v : Value) (cs : List Nat) (L : List (List Int)) (i x : Int) (w : World) (h : LnS B g v cs room L w) (hi : i < 0 ∨ cs.length ≤ i) :
    Calls Try.prog 14 #[.pointer (some ⟨g, 0, none⟩), .int .i64 i, .int .i64 x] w fun e w' => e = .returned (.int .i64 2) ∧ w' = w := by
  go_enter Try.func14, Try.ntmps14
  go_wp2_with fail
  refine (of_out.calls B g room v cs L i w h hi).mono ?_
  rintro e w' ⟨rfl, rfl⟩
  go_wp2
  go_ret
  exact ⟨rfl, rfl⟩
set_option maxHeartbeats 8000000 in
set_option maxRecDepth 100000 in
theorem Put_room.calls (B g room : Nat) (v : Value) (cs' : List Nat) (L : List (List Int)) (i c : Nat) (x : Int) (w : World) (h : LnS B g v cs' room L w) (hi : cs'[i]? = some c) (hr : (L.getD i []).length < room) :
    Calls Try.prog 14 #[.pointer (some ⟨g, 0, none⟩), .int .i64 i, .int .i64 x] w fun e w' => e = .returned (.int .i64 0) ∧ ∃ s r, w' = w.setChan c room ((L.getD i [] ++ [x]).map (Value.int .i64)).toArray false s r false := by
  obtain ⟨s, r, hc⟩ := h.ch i c hi
  refine calls_of_loneTo fun cs => ?_
  have e : Frame.enter Try.prog 14 #[.pointer (some ⟨g, 0, none⟩), .int .i64 i, .int .i64 x] .normal = (base 14).at ⟨#[.pointer (some ⟨g, 0, none⟩), .int .i64 i, .int .i64 x, undef, undef, undef, undef, undef, undef, undef, undef, undef, undef, undef, undef, undef, undef, undef, undef, undef, undef, undef, undef, undef, undef, undef], []⟩ [.code (Try.f14.body.getD .skip)] := by
    simp [Frame.enter, Frame.at, Try.func14, base, Try.f14]
  rw [e]
  refine LoneTo.goes (n := 9) ?_
  simp only [Try.f14, Option.getD_some]
  s_c stepG_seq
  s_reg
  s_op
  s_c stepG_region_end
  s_c stepG_seq
  s_reg
  s_op
  s_op
  s_in
  refine goes_enter rfl rfl (by decide) rfl Try.func26 (by kernel_rfl) rfl (vs := #[.pointer (some ⟨g, 0, none⟩), .int .i64 i]) (by simp [Act.eval]) ⟨trivial, ?_⟩
  s_stop
  refine LoneTo.calls (of_in.calls B g room v cs' L i c w h hi) ?_
  rintro e w' ⟨rfl, rfl⟩
  refine ⟨_, rfl, ?_⟩
  rw [Frame.finish_at]
  walk_nrm
  refine LoneTo.goes (n := 34) ?_
  s_op
  s_op
  s_op
  s_op
  s_op
  s_c stepG_region_end
  s_c stepG_seq
  s_c stepG_block
  s_c stepG_seq
  s_reg
  s_op
  s_op
  s_op
  s_c stepG_region_end
  s_cond false
  s_c stepG_seq
  s_reg
  s_op
  s_op
  s_op
  s_c stepG_region_end
  s_cond false
  s_c stepG_skip
  s_c stepG_inBlock
  s_c stepG_seq
  s_c stepG_seq
  s_reg
  s_op
  s_c stepG_region_end
  s_reg
  s_op
  s_c stepG_region_end
  s_c stepG_seq
  s_reg
  s_stop
  refine LoneTo.step (step_lone_sel_send_room (k := 0) (c := c) (v := .int .i64 x) (z := .int .i64 0) (cap := room) (buf := ((L.getD i []).map (Value.int .i64)).toArray) (s := s) (r := r) (tm := false)
    (stepG_comm (cases := #[scase c (.int .i64 x) (.int .i64 0)]) (blocking := false) (shape := .select) (w' := w') rfl rfl (by decide) (by simp [go_sem, execOp, rcase, scase, Act.eval]))
    rfl (fun m c' hm hc' => ?_) hc (by simpa using hr)) ?_
  · rcases m with _ | m
    · exact absurd rfl hm
    · simp at hc'
  rw [Frame.finish_at, res_s0]
  walk_nrm
  refine LoneTo.goes (n := 11) ?_
  s_op
  s_op
  s_c stepG_region_end
  s_c stepG_block
  s_cond true
  s_c stepG_seq
  s_reg
  s_op
  s_c stepG_region_end
  s_c stepG_ret'
  s_stop
  refine LoneTo.done ⟨.returned (.int .i64 0), _, rfl, ⟨rfl, s + 1, r, ?_⟩, rfl, rfl, rfl, rfl, _, Try.func14, by simp [results, Try.f14, Frame.at]⟩
  simp
end Ln
end Go.Proofs.Ytiokjjadpobciaa.P
