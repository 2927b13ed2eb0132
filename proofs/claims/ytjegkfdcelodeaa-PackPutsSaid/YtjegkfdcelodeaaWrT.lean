import Derived.Test.YtjegkfdcelodeaaWr
namespace Go.Proofs.Ytjegkfdcelodeaa.P
open Go.RowKit Go.Proofs.YtjegkfdcelodeaaW.PrintWords Go.Proofs.YtjegkfdcelodeaaW.PrintLast Go.Proofs.YtjegkfdcelodeaaW.PrintMore
attribute [local go_sem] max2_int min2_int max_two min_two max_three min_three max_four min_four
set_option linter.unusedVariables false
set_option linter.unusedSimpArgs false
namespace Wr
section
variable {P : Program} {ops : Array Oper} {rest : List Oper} {o : Oper} {a : Act} {Q : Exit → Act → World → Prop}
theorem hat_string (w : World) (base : Nat) (t u ty e : TypeId) (i : TypeInfo) (ht : P.underlying t = some (.slice e)) (hu : P.underlying u = some .string) (hi : P.info? e = some i) (hz : i.zero = some (.int .u8 0))
    (hsize : i.size = 1) (hby : i.bytes = 1) (v : Value) (n : Nat) (xs : List Value) (hown : w.ownsRow base e 1 v n xs) (s : ByteArray)
    (hbytes : n + s.size ≤ 140737488355328) {v' : Value} {w' : World} (hr : (Builtin.append_ #[t, u] ty #[v, .string s]).run P w = .ok v' w') (hn : v' = .slice none 0 0 ↔ v = .slice none 0 0 ∧ s.size = 0) :
    v'.ownBlock = v.ownBlock ∨ ∃ b, v'.ownBlock = some b ∧ w.heap.size ≤ b := by
  have hxl : xs.length = n := by simpa using hown.1
  rcases hown.2 with ⟨rfl, rfl⟩ | ⟨g, cap, cur, rfl, hbg, hg, hnc, hcm, hcs, htake⟩
  · by_cases hm : s.size = 0
    · left; rw [hn.mpr ⟨rfl, hm⟩]
    · have h2 := run_append_nil_string (P := P) w t u ty e i (.int .u8 0) ht hu hi hz s (by omega) (by omega) (by rw [hby]; omega)
      rw [h2] at hr
      injection hr with hv _
      subst hv
      exact .inr ⟨w.heap.size, by simp [Value.ownBlock], Nat.le_refl _⟩
  · by_cases hroom : n + s.size ≤ cap
    · have hcs' : cur.size = cap := by simpa using hcs
      have h2 := Lib.run_append_room_string (P := P) w t u ty e i ht hu hi hsize g n cap cur hg s hroom (by omega)
      rw [h2] at hr
      injection hr with hv _
      subst hv
      exact .inl (by simp [Value.ownBlock])
    · have holds : ∀ j u, xs[j]? = some u → w.cell? ((⟨g, 0, none⟩ : Addr).add j) = some u := hown.cells (g := g) rfl
      have h2 := Lib.run_append_grow_string (P := P) w t u ty e i (.int .u8 0) ht hu hi hz ⟨g, 0, none⟩ n cap xs (by rw [hsize]; simpa using hxl) holds s (by omega) (by omega) (by rw [hby]; exact growslice_fits (by omega) (by omega))
      rw [h2] at hr
      injection hr with hv _
      subst hv
      exact .inr ⟨w.heap.size, by simp [Value.ownBlock], Nat.le_refl _⟩
theorem wp_append_str {w0 W : World} (base : Nat) (hgd : o.guard = none) (s x : Operand) (t u e : TypeId)
    (ho : o.op = .call { callee := .builtin .append, args := #[s, x], argTypes := #[t, u] })
    (ht : P.underlying t = some (.slice e)) (hu : P.underlying u = some .string) (hinfo : (P.info? e).map (fun i => (i.zero, i.size, i.bytes)) = some (some (.int .u8 0), 1, 1))
    (v : Value) (xs : List Int) (y : ByteArray) (ok : Nat → Prop) (hs : a.eval s = v) (hx : a.eval x = .string y) (hfresh : ∀ k, W.heap.size ≤ k → ok k)
    (HO : (Kd.int .u8).R e W base ok v xs) (HB : Below base w0 W) (hbase : base ≤ W.heap.size) (hl : xs.length + y.size ≤ 140737488355328)
    (h : ∀ v1 w1, (Kd.int .u8).R e w1 base ok v1 (xs ++ bytesOf y) → Below base w0 w1 → W.grownBy w1 v.ownBlock → (v1.ownBlock = v.ownBlock ∨ ∃ b, v1.ownBlock = some b ∧ W.heap.size ≤ b) → wpList P ops Q rest (a.put o.dst v1) w1) :
    wpList P ops Q (o :: rest) a W := by
  have hown := Kd.own_of_R HO
  obtain ⟨i0, hi, hzz⟩ := Option.map_eq_some_iff.1 hinfo
  simp only [Prod.mk.injEq] at hzz
  obtain ⟨hz0, hz1, hz2⟩ := hzz
  refine wpList_plain hgd fun K hK => ?_
  obtain ⟨v', w', hr, h2, h3, h4⟩ := Lib.run_append_own_string (P := P) W base t u o.type e i0 ht hu hi hz0 hz1 hz2 v xs.length _ hown y (by simp only [maxLen]; omega) hl hbase
  have hat := hat_string W base t u o.type e i0 ht hu hi hz0 hz1 hz2 v xs.length _ hown y hl hr h4
  unfold Oper.wp execOp
  simp only [ho, resolve, invoke, builtin, Sem.run_bind, Sem.run_pure, Result.andThen_ok, List.map_toArray, List.map_cons, List.map_nil, hs, hx, hr]
  refine hK _ _ (h v' w' (Kd.R_of_own ?_ ?_) (HB.grown h3 hbase (fun k hk => Kd.R_base HO k hk)) h3 hat)
  · have hl2 : (xs ++ bytesOf y).length = xs.length + y.size := by rw [List.length_append, bytesOf_length]
    have hc : encs (Value.int .u8) (xs ++ bytesOf y) = encs (Value.int .u8) xs ++ Lib.strCells y := by
      simp [encs, bytesOf, Lib.strCells]
    rw [hl2, hc]; exact h2
  · intro k hk
    rcases hat with e1 | ⟨b, e1, hb⟩
    · exact HO.1 k (by rw [← e1]; exact hk)
    · rw [e1] at hk; injection hk with hk; subst hk; exact hfresh _ hb
end
set_option maxHeartbeats 8000000 in
set_option maxRecDepth 100000 in
theorem Writer_Text.calls (B g : Nat) (v : Value) (l : List Int) (s : ByteArray) (w0 w : World) (hs : s.size ≤ 100000) (hl : l.length ≤ 100000) (hB : Below B w0 w) (hg : B ≤ g) (hW : WrS B g v l w) :
    Calls Try.prog 67 #[.pointer (some ⟨g, 0, none⟩), .string s] w (WPost B g v (l ++ numB s.size ++ bytesOf s) w0 w) := by
  have HW := Aside0.mk hW
  have HB := Aside0.mk hB
  clear hW hB
  have hsz : IntKind.u64.wrap (s.size : Int) = s.size := by rw [wrap_u64]; omega
  have hnl := numB_len (s.size : Int) 10 (by omega) (by omega)
  go_enter Try.func67, Try.ntmps67
  go_wp2_with fail
  try rw [hsz]
  refine (Writer_Num.calls B g v l (s.size : Int) w0 w (by omega) (by omega) (by omega) HB.out hg HW.out).mono ?_
  clear HW HB
  rintro e w' ⟨v1, rfl, hw1, hb1, hf1, hv1⟩
  have HW := Aside0.mk hw1
  have HB := Aside0.mk hb1
  have HF := Aside0.mk hf1
  have HV := Aside0.mk hv1
  have hc := hw1.cell
  have hf := hw1.free
  have HS := Aside0.mk (blk_lt hw1.blk)
  clear hw1 hb1 hf1 hv1
  go_wp2_with ((with_reducible refine gate_builtin (b := .append) (xs := #[.tmp 15, .tmp 16]) rfl ?_); at_builtin; refine wp_append_str (w0 := w0) B rfl (.tmp 15) (.tmp 16) 32 9 5 rfl Try.underlying32 Try.underlying9 info5 v1 (l ++ numB (s.size : Int)) s (fun k => k ≠ g) rfl rfl ?aF ?aO ?aB ?aS ?aL ?_; (case aB => exact HB.out); (case aF => intro k hk e; have := HS.out; omega); (case aO => exact HW.out.row); (case aS => have := HS.out; omega); (case aL => simp; omega); intro v2 w2 ho hb hgr hat; obtain ⟨A2, c2, rfl⟩ := Kd.R_slice ho; have HO := Aside0.mk ho; have HB2 := Aside0.mk hb; have HG := Aside0.mk hgr; have HA := Aside0.mk hat; have hc2 := blk_cell (blk_grown HW.out.blk hgr (fun e => HW.out.row.1 g e.symm rfl)) 0; have hf2 := blk_frozen (blk_grown HW.out.blk hgr (fun e => HW.out.row.1 g e.symm rfl)) 0; clear ho hb hgr hat)
  have HT := Wr_step hg HS HW HF HV HO HB2 HG HA
  simp only [List.length_append, Nat.add_assoc] at HT
  go_ret
  exact ⟨_, rfl, HT.1.out, HT.2.1.out, HT.2.2.1.out, HT.2.2.2.out⟩
end Wr
end Go.Proofs.Ytjegkfdcelodeaa.P
