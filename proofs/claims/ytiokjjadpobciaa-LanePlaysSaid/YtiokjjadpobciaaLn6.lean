import Derived.Test.YtiokjjadpobciaaLn5
namespace Go.Proofs.Ytiokjjadpobciaa.P
open Go.RowKit Go.Conc Go.Proofs.YtiokjjadpobciaaW.PrintWords Go.Proofs.YtiokjjadpobciaaW.PrintLast Go.Proofs.YtiokjjadpobciaaW.PrintMore
attribute [local go_sem] max2_int min2_int max_two min_two max_three min_three max_four min_four
set_option linter.unusedVariables false
set_option linter.unusedSimpArgs false
namespace Ln
theorem info2 : (Try.prog.info? 2).map (fun i => (i.zero, i.size, i.bytes)) = some (some (.int .i64 0), 1, 8) := by kernel_rfl
/-- A block that is none of the lanes' kinds. -/
def other (w : World) (k : Nat) : Prop := ∃ cells t, w.heap[k]? = some (Obj.cells cells t (0, 0)) ∧ t ≠ 71 ∧ t ≠ 72
theorem LnS.move {B g room : Nat} {v : Value} {cs : List Nat} {L : List (List Int)} {w w' : World} (h : LnS B g v cs room L w) (hm : ∀ k, k < w.heap.size → ¬ other w k → w'.heap[k]? = w.heap[k]?) : LnS B g v cs room L w' := by
  refine ⟨?_, ?_, h.len, h.nd, fun i c hi => ?_, h.fit, h.lo⟩
  · rw [hm g (blk_lt h.blk) ?_]; exact h.blk
    rintro ⟨cells, t, hc, h1, h2⟩
    rw [h.blk] at hc
    injection hc with hc
    injection hc with _ hc
    exact h1 hc.symm
  · refine Kd.R_mono (Kd.R_step (Kd.R_bound h.row) (fun k hk hlt => hm k hlt ?_)) (fun _ hk => hk.1)
    obtain ⟨_, _, _, q, hq, cells, hcell⟩ := hk
    rintro ⟨cells', t, hc, h1, h2⟩
    rw [hcell] at hc
    injection hc with hc
    injection hc with _ hc
    have e : q = 72 := by simpa [chan, Kd.scalar] using hq
    exact h2 (hc.symm.trans e)
  · obtain ⟨s, r, hc⟩ := h.ch i c hi
    refine ⟨s, r, ?_⟩
    rw [hm c (blk_lt hc) ?_]; exact hc
    rintro ⟨cells, t, hc', h1, h2⟩
    rw [hc] at hc'
    simp at hc'
theorem isCh_back {w w' : World} (h : Far w w' (isCh w)) {i : Nat} (hi : i < w.heap.size) (hc : isCh w' i) : isCh w i := by
  apply Classical.byContradiction
  intro hn
  obtain ⟨cap, buf, cl, s, r, tm, hb⟩ := hc
  rw [h.block i hi hn] at hb
  exact hn ⟨_, _, _, _, _, _, hb⟩
def lenS : Value → Nat
  | .slice _ n _ => n
  | _ => 0
theorem func20h : ∀ (fn : Func), Try.prog.funcs[20]? = some fn → fn = Try.f20 := fun fn h => by rw [Try.func20] at h; exact (Option.some.inj h).symm
set_option maxHeartbeats 8000000 in
set_option maxRecDepth 100000 in
theorem Drain_nil.calls (i : Int) (w : World) :
    Calls Try.prog 21 #[.pointer none, .int .i64 i] w fun e w' => e = .returned (.slice none 0 0) ∧ w' = w := by
  go_enter Try.func21, Try.ntmps21
  go_wp2
  go_loopw [4] (fun x4 wr => x4 = .slice none 0 0 ∧ wr = w) (fun x4 _ => 1)
  case atStart => exact ⟨rfl, rfl⟩
  case round =>
    obtain ⟨rfl, rfl⟩ := hrel
    go_wp2_with fail
    refine (From_nil.calls i _).mono ?_
    rintro e w' ⟨rfl, rfl⟩
    go_wp2
    go_ret
    exact ⟨rfl, rfl⟩
set_option maxHeartbeats 8000000 in
set_option maxRecDepth 100000 in
theorem Drain_out.calls (B g room : Nat) (v : Value) (cs : List Nat) (L : List (List Int)) (i : Int) (w : World) (h : LnS B g v cs room L w) (hi : i < 0 ∨ cs.length ≤ i) :
    Calls Try.prog 21 #[.pointer (some ⟨g, 0, none⟩), .int .i64 i] w fun e w' => e = .returned (.slice none 0 0) ∧ w' = w := by
  have HL := Aside0.mk h
  clear h
  go_enter Try.func21, Try.ntmps21
  go_wp2
  go_loopw [4] (fun x4 wr => x4 = .slice none 0 0 ∧ wr = w) (fun x4 _ => 1)
  case atStart => exact ⟨rfl, rfl⟩
  case round =>
    obtain ⟨rfl, rfl⟩ := hrel
    go_wp2_with fail
    refine (From_out.calls B g room v cs L i _ HL.out hi).mono ?_
    rintro e w' ⟨rfl, rfl⟩
    go_wp2
    go_ret
    exact ⟨rfl, rfl⟩
def drainV (L : List (List Int)) (i : Int) : List Int × List (List Int) := if lane L i then (L.getD i.toNat [], L.set i.toNat []) else ([], L)
set_option maxHeartbeats 8000000 in
set_option maxRecDepth 100000 in
theorem Drain_in.calls (B g room : Nat) (v : Value) (cs : List Nat) (L : List (List Int)) (i c : Nat) (q : List Int) (w0 w : World) (hB : Below B w0 w) (hb : B ≤ w.heap.size) (h : LnS B g v cs room L w) (hi : cs[i]? = some c) (hq : L.getD i [] = q) (hr : room ≤ 64) :
    Calls Try.prog 21 #[.pointer (some ⟨g, 0, none⟩), .int .i64 i] w fun e w' => ∃ v1, e = .returned v1 ∧ Kd.R (Kd.int .i64) 2 w' w.heap.size (fun _ => True) v1 q ∧ LPost B g room (L.set i []) w0 w w' := by
  have HL := Aside0.mk h
  have HB := Aside0.mk hB
  have hil : i < L.length := by have := (List.getElem?_eq_some_iff.1 hi).1; rw [h.len]; exact this
  have hqr : q.length ≤ 64 := by have := h.fits i; rw [hq] at this; omega
  have hset : L.set i q = L := by
    rw [← hq, List.getD_eq_getElem?_getD, List.getElem?_eq_getElem hil]
    simp
  clear h hB
  go_enter Try.func21, Try.ntmps21
  go_wp2
  go_loopw [4] (fun x4 wr => ∃ k : Nat, k ≤ q.length ∧ lenS x4 = k ∧ Aside0 (Kd.R (Kd.int .i64) 2 wr w.heap.size (fun _ => True) x4 (q.take k)) ∧ Aside0 (LnS B g v cs room (L.set i (q.drop k)) wr) ∧ Aside0 (Below B w0 wr) ∧ Aside0 (Far w wr (isCh w))) (fun x4 _ => q.length - lenS x4)
  case atStart => exact ⟨0, by omega, rfl, ⟨Kd.R_nil _ _ _ _ _⟩, ⟨by simpa [hset] using HL.out⟩, HB, ⟨Far.refl _ _⟩⟩
  case round =>
    clear HL HB
    obtain ⟨k, hk, hlen, HR, HL, HB, HF⟩ := hrel
    have hgd : (L.set i (q.drop k)).getD i [] = q.drop k := by rw [List.getD_eq_getElem?_getD, List.getElem?_set_self hil]; rfl
    obtain ⟨A, cp, hx4⟩ := Kd.R_slice HR.out
    have hkl : (q.take k).length = k := by rw [List.length_take]; omega
    rw [hkl] at hx4
    subst hx4
    by_cases d : k < q.length
    · have hdr : q.drop k = q[k] :: q.drop (k + 1) := List.drop_eq_getElem_cons d
      have hbr : w.heap.size ≤ wr.heap.size := HF.out.size
      go_wp2_with fail
      refine (From_some.calls B g room v cs (L.set i (q.drop k)) i c q[k] (q.drop (k + 1)) _ HL.out hi (hgd.trans hdr)).mono ?_
      rintro e w' ⟨rfl, s, r, hw'⟩
      have HL1 := Aside0.mk (show LnS B g v cs room (L.set i (q.drop (k + 1))) w' by
        have := HL.out.turn hi (q.drop (k + 1)) (by have := HL.out.fits i; rw [hgd, List.length_drop] at this; rw [List.length_drop]; omega) s r
        rw [List.set_set, ← hw'] at this
        exact this)
      have HR1 := Aside0.mk (show Kd.R (Kd.int .i64) 2 w' w.heap.size (fun _ => True) (.slice A k cp) (q.take k) by
        obtain ⟨s0, r0, hc0⟩ := HL.out.ch i c hi
        rw [hw']
        exact R_chan HR.out hc0 _ _ _ _ _ _)
      have HF1 := Aside0.mk (show Far w w' (isCh w) by
        rw [hw']
        by_cases hcl : c < w.heap.size
        · exact HF.out.setChan (.inr (isCh_back HF.out hcl (HL.out.ch i c hi).is)) _ _ _ _ _ _
        · exact HF.out.setChan (.inl (by omega)) _ _ _ _ _ _)
      have HB1 := Aside0.mk (show Below B w0 w' by rw [hw']; exact below_setChan HB.out (HL.out.lo c (List.mem_of_getElem? hi)) _ _ _ _ _ _)
      have hbr1 : w.heap.size ≤ w'.heap.size := HF1.out.size
      clear HL HR HF HB hw'
      go_wp2_with ((with_reducible refine gate_builtin (b := .append) (xs := #[.tmp 19, .tmp 21]) rfl ?_); at_builtin; refine Kd.R_append (Kd.int .i64) (w0 := w') w.heap.size rfl (.tmp 19) (.tmp 21) 27 2 (.int .i64 0) 8 rfl Try.underlying27 info2 rfl (by decide) (by omega) (.slice A k cp) (q.take k) q[k] [.int .i64 q[k]] (fun _ => True) (fun _ => False) rfl rfl ?aP (fun _ hk => hk.elim) ?aF ?aO ?aB ?aS ?aL ?_; (case aP => exact rfl); (case aB => exact (Below.refl _ w').mono hbr1); (case aF => intro k hk; trivial); (case aO => exact HR1.out); (case aS => exact hbr1); (case aL => omega); intro v2 w2 ho hb hgr hat; have HO := Aside0.mk ho; have HG := Aside0.mk hgr; clear ho hb hgr hat)
      have hne : ∀ j, j < w'.heap.size → ¬ other w' j → w2.heap[j]? = w'.heap[j]? := by
        intro j hj hn
        refine HG.out.block j hj (fun e => hn ?_)
        obtain ⟨_, _, _, t, ht, cells, hcell⟩ := (Kd.R_bound HR1.out).1 j e.symm
        have e2 : t = 2 := by simpa [Kd.int, Kd.scalar] using ht
        subst e2
        exact ⟨cells, _, hcell, by decide, by decide⟩
      have hbase : ∀ j, j < w.heap.size → some j ≠ (Value.slice A k cp).ownBlock := by
        intro j hj e
        have := ((Kd.R_bound HR1.out).1 j e.symm).2.1
        omega
      have hts : q.take k ++ [q[k]] = q.take (k + 1) := by simp
      have HO2 := HO.out
      rw [hts] at HO2
      obtain ⟨A2, c2, hv2⟩ := Kd.R_slice HO2
      rw [List.length_take, show min (k + 1) q.length = k + 1 from by omega] at hv2
      have HL3 := Aside0.mk (HL1.out.move hne)
      have HF3 := Aside0.mk (show Far w w2 (isCh w) from ⟨HG.out.os.trans HF1.out.os, HG.out.tape.trans HF1.out.tape, HG.out.output.trans HF1.out.output, Nat.le_trans HF1.out.size HG.out.size, fun j hj hn => (HG.out.block j (Nat.lt_of_lt_of_le hj HF1.out.size) (hbase j hj)).trans (HF1.out.block j hj hn)⟩)
      have HB3 := Aside0.mk (show Below B w0 w2 from HB1.out.trans ⟨HG.out.os, HG.out.tape, HG.out.output, HG.out.size, fun j hj => HG.out.block j (by omega) (hbase j (by omega))⟩)
      refine ⟨⟨k + 1, by omega, by rw [hv2]; rfl, ⟨HO2⟩, HL3, HB3, HF3⟩, ?_⟩
      rw [hv2]
      simp only [lenS]
      omega
    · have hk2 : q.length = k := by omega
      have hdr : q.drop k = [] := List.drop_eq_nil_of_le (by omega)
      go_wp2_with fail
      refine (From_empty.calls B g room v cs (L.set i (q.drop k)) i c _ HL.out hi (hgd.trans hdr)).mono ?_
      rintro e w' ⟨rfl, rfl⟩
      have HR1 := HR.out
      rw [List.take_of_length_le (by omega)] at HR1
      have HL1 := HL.out
      rw [hdr] at HL1
      have HR2 := Aside0.mk HR1
      have HL2 := Aside0.mk HL1
      clear HR1 HL1 HR HL
      go_wp2
      go_ret
      exact ⟨.slice A k cp, rfl, HR2.out, ⟨_, _, HL2.out⟩, HB.out, HF.out⟩
end Ln
end Go.Proofs.Ytiokjjadpobciaa.P
