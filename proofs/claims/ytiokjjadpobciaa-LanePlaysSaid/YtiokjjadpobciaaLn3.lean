import Derived.Test.YtiokjjadpobciaaLn2
namespace Go.Proofs.Ytiokjjadpobciaa.P
open Go.RowKit Go.Conc Go.Proofs.YtiokjjadpobciaaW.PrintWords Go.Proofs.YtiokjjadpobciaaW.PrintLast Go.Proofs.YtiokjjadpobciaaW.PrintMore
attribute [local go_sem] max2_int min2_int max_two min_two max_three min_three max_four min_four
set_option linter.unusedVariables false
set_option linter.unusedSimpArgs false
namespace Ln
set_option maxHeartbeats 8000000 in
set_option maxRecDepth 100000 in
theorem Put_full.calls (B g room : Nat) (v : Value) (cs' : List Nat) (L : List (List Int)) (i c : Nat) (x : Int) (w : World) (h : LnS B g v cs' room L w) (hi : cs'[i]? = some c) (hr : room ≤ (L.getD i []).length) :
    Calls Try.prog 14 #[.pointer (some ⟨g, 0, none⟩), .int .i64 i, .int .i64 x] w fun e w' => e = .returned (.int .i64 7) ∧ w' = w := by
  obtain ⟨s, r, hc⟩ := h.ch i c hi
  refine calls_of_loneTo fun cs => ?_
  have e : Frame.enter Try.prog 14 #[.pointer (some ⟨g, 0, none⟩), .int .i64 i, .int .i64 x] .normal = (base 14).at ⟨#[.pointer (some ⟨g, 0, none⟩), .int .i64 i, .int .i64 x, undef, undef, undef, undef, undef, undef, undef, undef, undef, undef, undef, undef, undef, undef, undef, undef, undef, undef, undef, undef, undef, undef, undef], []⟩ [.code (Try.f14.body.getD .skip)] := by
    simp [Frame.enter, Frame.at, Try.func14, base, Try.f14]
  rw [e]
  refine LoneTo.goes (n := 9) ?_
  simp only [Try.f14, Option.getD_some]
  s_c stepG_seq
  s_reg
  s_op
  s_c stepG_region_end
  s_c stepG_seq
  s_reg
  s_op
  s_op
  s_in
  refine goes_enter rfl rfl (by decide) rfl Try.func26 (by kernel_rfl) rfl (vs := #[.pointer (some ⟨g, 0, none⟩), .int .i64 i]) (by simp [Act.eval]) ⟨trivial, ?_⟩
  s_stop
  refine LoneTo.calls (of_in.calls B g room v cs' L i c w h hi) ?_
  rintro e w' ⟨rfl, rfl⟩
  refine ⟨_, rfl, ?_⟩
  rw [Frame.finish_at]
  walk_nrm
  refine LoneTo.goes (n := 34) ?_
  s_op
  s_op
  s_op
  s_op
  s_op
  s_c stepG_region_end
  s_c stepG_seq
  s_c stepG_block
  s_c stepG_seq
  s_reg
  s_op
  s_op
  s_op
  s_c stepG_region_end
  s_cond false
  s_c stepG_seq
  s_reg
  s_op
  s_op
  s_op
  s_c stepG_region_end
  s_cond false
  s_c stepG_skip
  s_c stepG_inBlock
  s_c stepG_seq
  s_c stepG_seq
  s_reg
  s_op
  s_c stepG_region_end
  s_reg
  s_op
  s_c stepG_region_end
  s_c stepG_seq
  s_reg
  s_stop
  refine LoneTo.step (step_lone_sel_default
    (stepG_comm (cases := #[scase c (.int .i64 x) (.int .i64 0)]) (blocking := false) (shape := .select) (w' := w') rfl rfl (by decide) (by simp [go_sem, execOp, rcase, scase, Act.eval]))
    (fun cc hcc => ?_)) ?_
  · simp only [List.mem_toArray, List.mem_cons, List.not_mem_nil, or_false] at hcc
    subst hcc
    exact noWay_send hc (by simpa using hr)
  rw [Frame.finish_at, res_sd]
  walk_nrm
  refine LoneTo.goes (n := 11) ?_
  s_op
  s_op
  s_c stepG_region_end
  s_c stepG_block
  s_cond false
  s_c stepG_seq
  s_reg
  s_op
  s_c stepG_region_end
  s_c stepG_ret'
  s_stop
  exact LoneTo.done ⟨.returned (.int .i64 7), _, rfl, ⟨rfl, rfl⟩, rfl, rfl, rfl, rfl, _, Try.func14, by simp [results, Try.f14, Frame.at]⟩
set_option maxHeartbeats 8000000 in
set_option maxRecDepth 100000 in
theorem From_empty.calls (B g room : Nat) (v : Value) (cs' : List Nat) (L : List (List Int)) (i c : Nat) (w : World) (h : LnS B g v cs' room L w) (hi : cs'[i]? = some c) (hr : L.getD i [] = []) :
    Calls Try.prog 20 #[.pointer (some ⟨g, 0, none⟩), .int .i64 i] w fun e w' => e = .returned (.tuple #[.int .i64 0, .bool false]) ∧ w' = w := by
  obtain ⟨s, r, hc⟩ := h.ch i c hi
  rw [hr] at hc
  refine calls_of_loneTo fun cs => ?_
  have e : Frame.enter Try.prog 20 #[.pointer (some ⟨g, 0, none⟩), .int .i64 i] .normal = (base 20).at ⟨#[.pointer (some ⟨g, 0, none⟩), .int .i64 i, undef, undef, undef, undef, undef, undef, undef, undef, undef, undef, undef, undef, undef, undef, undef, undef, undef, undef, undef, undef, undef], []⟩ [.code (Try.f20.body.getD .skip)] := by
    simp [Frame.enter, Frame.at, Try.func20, base, Try.f20]
  rw [e]
  refine LoneTo.goes (n := 10) ?_
  simp only [Try.f20, Option.getD_some]
  s_c stepG_seq
  s_reg
  s_op
  s_op
  s_c stepG_region_end
  s_c stepG_seq
  s_reg
  s_op
  s_op
  s_in
  refine goes_enter rfl rfl (by decide) rfl Try.func26 (by kernel_rfl) rfl (vs := #[.pointer (some ⟨g, 0, none⟩), .int .i64 i]) (by simp [Act.eval]) ⟨trivial, ?_⟩
  s_stop
  refine LoneTo.calls (of_in.calls B g room v cs' L i c w h hi) ?_
  rintro e w' ⟨rfl, rfl⟩
  refine ⟨_, rfl, ?_⟩
  rw [Frame.finish_at]
  walk_nrm
  refine LoneTo.goes (n := 40) ?_
  s_op
  s_op
  s_op
  s_op
  s_op
  s_c stepG_region_end
  s_c stepG_seq
  s_c stepG_seq
  s_reg
  s_op
  s_op
  s_c stepG_region_end
  s_cond false
  s_c stepG_skip
  s_c stepG_seq
  s_reg
  s_op
  s_c stepG_region_end
  s_c stepG_seq
  s_reg
  s_stop
  refine LoneTo.step (step_lone_sel_default
    (stepG_comm (cases := #[rcase c (.int .i64 0)]) (blocking := false) (shape := .select) (w' := w') rfl rfl (by decide) (by simp [go_sem, execOp, rcase, scase, Act.eval]))
    (fun cc hcc => ?_)) ?_
  · simp only [List.mem_toArray, List.mem_cons, List.not_mem_nil, or_false] at hcc
    subst hcc
    exact noWay_recv hc
  rw [Frame.finish_at, res_rd]
  walk_nrm
  refine LoneTo.goes (n := 20) ?_
  s_op
  s_op
  s_c stepG_region_end
  s_c stepG_block
  s_cond false
  s_c stepG_seq
  s_reg
  s_op
  s_op
  s_op
  s_c stepG_region_end
  s_c stepG_ret'
  s_stop
  exact LoneTo.done ⟨.returned (.tuple #[.int .i64 0, .bool false]), _, rfl, ⟨rfl, rfl⟩, rfl, rfl, rfl, rfl, _, Try.func20, by simp [results, Try.f20, Frame.at]⟩
set_option maxHeartbeats 8000000 in
set_option maxRecDepth 100000 in
theorem From_some.calls (B g room : Nat) (v : Value) (cs' : List Nat) (L : List (List Int)) (i c : Nat) (x : Int) (q : List Int) (w : World) (h : LnS B g v cs' room L w) (hi : cs'[i]? = some c) (hr : L.getD i [] = x :: q) :
    Calls Try.prog 20 #[.pointer (some ⟨g, 0, none⟩), .int .i64 i] w fun e w' => e = .returned (.tuple #[.int .i64 x, .bool true]) ∧ ∃ s r, w' = w.setChan c room (q.map (Value.int .i64)).toArray false s r false := by
  obtain ⟨s, r, hc⟩ := h.ch i c hi
  rw [hr] at hc
  refine calls_of_loneTo fun cs => ?_
  have e : Frame.enter Try.prog 20 #[.pointer (some ⟨g, 0, none⟩), .int .i64 i] .normal = (base 20).at ⟨#[.pointer (some ⟨g, 0, none⟩), .int .i64 i, undef, undef, undef, undef, undef, undef, undef, undef, undef, undef, undef, undef, undef, undef, undef, undef, undef, undef, undef, undef, undef], []⟩ [.code (Try.f20.body.getD .skip)] := by
    simp [Frame.enter, Frame.at, Try.func20, base, Try.f20]
  rw [e]
  refine LoneTo.goes (n := 10) ?_
  simp only [Try.f20, Option.getD_some]
  s_c stepG_seq
  s_reg
  s_op
  s_op
  s_c stepG_region_end
  s_c stepG_seq
  s_reg
  s_op
  s_op
  s_in
  refine goes_enter rfl rfl (by decide) rfl Try.func26 (by kernel_rfl) rfl (vs := #[.pointer (some ⟨g, 0, none⟩), .int .i64 i]) (by simp [Act.eval]) ⟨trivial, ?_⟩
  s_stop
  refine LoneTo.calls (of_in.calls B g room v cs' L i c w h hi) ?_
  rintro e w' ⟨rfl, rfl⟩
  refine ⟨_, rfl, ?_⟩
  rw [Frame.finish_at]
  walk_nrm
  refine LoneTo.goes (n := 40) ?_
  s_op
  s_op
  s_op
  s_op
  s_op
  s_c stepG_region_end
  s_c stepG_seq
  s_c stepG_seq
  s_reg
  s_op
  s_op
  s_c stepG_region_end
  s_cond false
  s_c stepG_skip
  s_c stepG_seq
  s_reg
  s_op
  s_c stepG_region_end
  s_c stepG_seq
  s_reg
  s_stop
  refine LoneTo.step (step_lone_sel_recv_buf (k := 0) (c := c) (z := .int .i64 0) (cap := room) (buf := ((x :: q).map (Value.int .i64)).toArray) (closed := false) (s := s) (r := r) (tm := false)
    (stepG_comm (cases := #[rcase c (.int .i64 0)]) (blocking := false) (shape := .select) (w' := w') rfl rfl (by decide) (by simp [go_sem, execOp, rcase, scase, Act.eval]))
    rfl (fun m c' hm hc' => ?_) hc (by simp)) ?_
  · rcases m with _ | m
    · exact absurd rfl hm
    · simp at hc'
  rw [Frame.finish_at, show (((x :: q).map (Value.int .i64)).toArray.getD 0 undef) = .int .i64 x from by simp, res_r0]
  walk_nrm
  refine LoneTo.goes (n := 20) ?_
  s_op
  s_op
  s_c stepG_region_end
  s_c stepG_block
  s_cond true
  s_c stepG_seq
  s_reg
  s_op
  s_op
  s_c stepG_region_end
  s_c stepG_seq
  s_reg
  s_op
  s_op
  s_op
  s_c stepG_region_end
  s_c stepG_ret'
  s_stop
  refine LoneTo.done ⟨.returned (.tuple #[.int .i64 x, .bool true]), _, rfl, ⟨rfl, s, r + 1, ?_⟩, rfl, rfl, rfl, rfl, _, Try.func20, by simp [results, Try.f20, Frame.at]⟩
  rw [List.take_of_length_le (by simp)]
theorem len_nil_chan (ty : TypeId) (W : World) : (Builtin.len_ #[72] ty #[.chan none]).run Try.prog W = .ok (.int .i64 0) W := by
  simp [Builtin.len_, run_underlying Try.underlying72, goInt]
set_option maxHeartbeats 8000000 in
set_option maxRecDepth 100000 in
theorem From_nil.calls (i : Int) (w : World) :
    Calls Try.prog 20 #[.pointer none, .int .i64 i] w fun e w' => e = .returned (.tuple #[.int .i64 0, .bool false]) ∧ w' = w := by
  go_enter Try.func20, Try.ntmps20
  go_wp2_with fail
  refine (of_nil.calls i w).mono ?_
  rintro e w' ⟨rfl, rfl⟩
  go_wp2
  go_ret2
  exact ⟨rfl, rfl⟩
set_option maxHeartbeats 8000000 in
set_option maxRecDepth 100000 in
theorem From_out.calls (B g room : Nat) (v : Value) (cs : List Nat) (L : List (List Int)) (i : Int) (w : World) (h : LnS B g v cs room L w) (hi : i < 0 ∨ cs.length ≤ i) :
    Calls Try.prog 20 #[.pointer (some ⟨g, 0, none⟩), .int .i64 i] w fun e w' => e = .returned (.tuple #[.int .i64 0, .bool false]) ∧ w' = w := by
  go_enter Try.func20, Try.ntmps20
  go_wp2_with fail
  refine (of_out.calls B g room v cs L i w h hi).mono ?_
  rintro e w' ⟨rfl, rfl⟩
  go_wp2
  go_ret2
  exact ⟨rfl, rfl⟩
set_option maxHeartbeats 8000000 in
set_option maxRecDepth 100000 in
theorem Len_nil.calls (i : Int) (w : World) :
    Calls Try.prog 19 #[.pointer none, .int .i64 i] w fun e w' => e = .returned (.int .i64 0) ∧ w' = w := by
  have hlen0 := len_nil_chan
  go_enter Try.func19, Try.ntmps19
  go_wp2_with fail
  refine (of_nil.calls i w).mono ?_
  rintro e w' ⟨rfl, rfl⟩
  go_wp2
  go_ret
  exact ⟨rfl, rfl⟩
set_option maxHeartbeats 8000000 in
set_option maxRecDepth 100000 in
theorem Len_out.calls (B g room : Nat) (v : Value) (cs : List Nat) (L : List (List Int)) (i : Int) (w : World) (h : LnS B g v cs room L w) (hi : i < 0 ∨ cs.length ≤ i) :
    Calls Try.prog 19 #[.pointer (some ⟨g, 0, none⟩), .int .i64 i] w fun e w' => e = .returned (.int .i64 0) ∧ w' = w := by
  have hlen0 := len_nil_chan
  go_enter Try.func19, Try.ntmps19
  go_wp2_with fail
  refine (of_out.calls B g room v cs L i w h hi).mono ?_
  rintro e w' ⟨rfl, rfl⟩
  go_wp2
  go_ret
  exact ⟨rfl, rfl⟩
set_option maxHeartbeats 8000000 in
set_option maxRecDepth 100000 in
theorem Len_in.calls (B g room : Nat) (v : Value) (cs : List Nat) (L : List (List Int)) (i c : Nat) (w : World) (h : LnS B g v cs room L w) (hi : cs[i]? = some c) :
    Calls Try.prog 19 #[.pointer (some ⟨g, 0, none⟩), .int .i64 i] w fun e w' => e = .returned (.int .i64 (L.getD i []).length) ∧ w' = w := by
  obtain ⟨s, r, hc⟩ := h.ch i c hi
  have hlen := fun ty => run_len_chan (P := Try.prog) 72 ty Try.underlying72 hc
  have hlen0 := len_nil_chan
  go_enter Try.func19, Try.ntmps19
  go_wp2_with fail
  refine (of_in.calls B g room v cs L i c w h hi).mono ?_
  rintro e w' ⟨rfl, rfl⟩
  go_wp2
  go_ret
  refine ⟨?_, rfl⟩
  simp [goInt]
end Ln
end Go.Proofs.Ytiokjjadpobciaa.P
