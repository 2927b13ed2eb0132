import Derived.Test.YtjegkfdcelodeaaPo
import Derived.Test.YtjegkfdcelodeaaLw7
namespace Go.Proofs.Ytjegkfdcelodeaa.P
open Go.RowKit Go.Proofs.Ytjegkfdcelodeaa.Pol Go.Proofs.YtjegkfdcelodeaaW.PrintWords Go.Proofs.YtjegkfdcelodeaaW.PrintLast Go.Proofs.YtjegkfdcelodeaaW.PrintMore
attribute [local go_sem] max2_int min2_int max_two min_two max_three min_three max_four min_four
set_option linter.unusedVariables false
set_option linter.unusedSimpArgs false
namespace Wr
theorem meas_lt3 (i n : Nat) (h : i < n) (hw : wrap64 ((i : Int) + 1) = ((i + 1 : Nat) : Int)) : n - (intOf (.int .i64 (wrap64 ((i : Int) + 1)))).toNat < n - (intOf (.int .i64 ((i : Nat) : Int))).toNat := by
  rw [hw]
  simp only [intOf]
  omega
theorem meas_lt2 (i n : Nat) (h : i < n) : n - (((i + 1 : Nat) : Nat) : Int).toNat < n - ((i : Nat) : Int).toNat := by omega
theorem meas_lt (i n : Nat) (h : i < n) : n - ((i : Int) + 1).toNat < n - ((i : Nat) : Int).toNat := by omega
theorem one.calls (B g x : Nat) (s t : List Int × Int) (k m n i : Int) (u : ByteArray) (b : Bool) (w0 w : World) (hk1 : 1 ≤ k ∧ k ≤ 4) (hl : ∀ y ∈ s.1, 0 ≤ y ∧ y < 256) (hk : ∀ y ∈ t.1, 0 ≤ y ∧ y < 256) (hm : m = 60) (hB : Below B w0 w) (hg : B ≤ g) (hgx : g < x) (hR : RdP g s.1 s.2 w) (hX : XdP x t.1 t.2 w) :
    Calls Try.prog 54 #[.pointer (some ⟨g, 0, none⟩), .pointer (some ⟨x, 0, none⟩), .agg #[.int .i64 k, .int .i64 m, .int .u64 n, .int .i64 i, .string u, .bool b]] w fun e w' => (∃ r : Bool, e = .returned (.bool r)) ∧ RdP g (stepS k 60 s).1 (stepS k 60 s).2 w' ∧ XdP x (stepS k 60 t).1 (stepS k 60 t).2 w' ∧ Below B w0 w' ∧ Far w w' (fun k => k = g ∨ k = x) := by
  rcases kinds hk1 with rfl | rfl | rfl | rfl
  · exact one1.calls B g x s t m n i u b w0 w hl hk hm hB hg hgx hR hX
  · exact one2.calls B g x s t m n i u b w0 w hl hk hm hB hg hgx hR hX
  · exact one3.calls B g x s t m n i u b w0 w hl hk hm hB hg hgx hR hX
  · exact one4.calls B g x s t m n i u b w0 w hl hk hm hB hg hgx hR hX
theorem back1 (l : List S52) (i : Nat) (d : i < l.length) (h : okS l[i] ∧ l[i].f4.size ≤ 60 ∧ 1 ≤ l[i].f0 ∧ l[i].f0 ≤ 4) (hk : l[i].f0 = 1) : numS (putsB (l.drop i), 0) = (l[i].f2, putsB (l.drop (i + 1)), 0) := by
  rw [putsB_drop l i d]
  have e : partS l[i] = numB l[i].f2 := by unfold partS partB; rw [hk]; rfl
  rw [e]
  exact numS_back _ _ h.1.1
theorem back2 (l : List S52) (i : Nat) (d : i < l.length) (h : okS l[i] ∧ l[i].f4.size ≤ 60 ∧ 1 ≤ l[i].f0 ∧ l[i].f0 ≤ 4) (hk : l[i].f0 = 2) : intS (putsB (l.drop i), 0) = (l[i].f3, putsB (l.drop (i + 1)), 0) := by
  rw [putsB_drop l i d]
  have e : partS l[i] = numB (zz l[i].f3) := by unfold partS partB; rw [hk]; rfl
  rw [e]
  exact (by unfold intS; rw [numS_back _ _ (zz_bd _ h.1.2)]; simp only [unz_zz])
theorem back3 (l : List S52) (i : Nat) (d : i < l.length) (h : okS l[i] ∧ l[i].f4.size ≤ 60 ∧ 1 ≤ l[i].f0 ∧ l[i].f0 ≤ 4) (hk : l[i].f0 = 3) : textS 60 (putsB (l.drop i), 0) = (l[i].f4, putsB (l.drop (i + 1)), 0) := by
  rw [putsB_drop l i d]
  have e : partS l[i] = numB l[i].f4.size ++ bytesOf l[i].f4 := by unfold partS partB; rw [hk]; rfl
  rw [e]
  exact textS_back _ _ h.2.1
theorem back4 (l : List S52) (i : Nat) (d : i < l.length) (h : okS l[i] ∧ l[i].f4.size ≤ 60 ∧ 1 ≤ l[i].f0 ∧ l[i].f0 ≤ 4) (hk : l[i].f0 = 4) : boolS (putsB (l.drop i), 0) = (l[i].f5, putsB (l.drop (i + 1)), 0) := by
  rw [putsB_drop l i d]
  have e : partS l[i] = [if l[i].f5 then 1 else 0] := by unfold partS partB; rw [hk]; rfl
  rw [e]
  exact boolS_back _ _
def pk1.T20 : Bool × List (List Nat × List Nat) := (true, [([], []), ([0], [0]), ([], []), ([2], [2]), ([1, 3], [1, 3]), ([4, 1, 0, 1, 2, 3, 4], [4])])
def pk1.B20 : List Nat := [0, 1, 0, 4, 15, 31]
theorem pk1.tab20 : rtab .any (opsOf Try.f11 20) = pk1.T20 := by kernel_rfl
theorem pk1.bits20 : waitsOk pk1.T20.2 pk1.B20 = true := by kernel_rfl
def pk2.T22 : Bool × List (List Nat × List Nat) := (true, [([], []), ([0], [0]), ([], []), ([2], [2]), ([1, 3], [1, 3]), ([4, 1, 0, 1, 2, 3, 4], [4])])
def pk2.B22 : List Nat := [0, 1, 0, 4, 15, 31]
theorem pk2.tab22 : rtab .any (opsOf Try.f11 22) = pk2.T22 := by kernel_rfl
theorem pk2.bits22 : waitsOk pk2.T22.2 pk2.B22 = true := by kernel_rfl
def pk3.T24 : Bool × List (List Nat × List Nat) := (true, [([], []), ([0], [0]), ([], []), ([2], [2]), ([1, 3], [1, 3]), ([4, 1, 0, 1, 2, 3, 4], [4])])
def pk3.B24 : List Nat := [0, 1, 0, 4, 15, 31]
theorem pk3.tab24 : rtab .any (opsOf Try.f11 24) = pk3.T24 := by kernel_rfl
theorem pk3.bits24 : waitsOk pk3.T24.2 pk3.B24 = true := by kernel_rfl
def pk4.T26 : Bool × List (List Nat × List Nat) := (true, [([], []), ([0], [0]), ([], []), ([2], [2]), ([1, 3], [1, 3]), ([4, 1, 0, 1, 2, 3, 4], [4])])
def pk4.B26 : List Nat := [0, 1, 0, 4, 15, 31]
theorem pk4.tab26 : rtab .any (opsOf Try.f11 26) = pk4.T26 := by kernel_rfl
theorem pk4.bits26 : waitsOk pk4.T26.2 pk4.B26 = true := by kernel_rfl
set_option maxHeartbeats 8000000 in
set_option maxRecDepth 100000 in
theorem pk.main (A : Option Addr) (c : Nat) (l : List S52) (less : Int) (w : World) (hC : Kd.C k52 w A l.length l) (hc : l.length ≤ c) (ho : ∀ p ∈ l, okS p) (hl : lightV l = true) (hn : 0 < l.length) (hls : -9223372036854775808 ≤ less ∧ less < 9223372036854775808) :
    Calls Try.prog 11 #[.slice A l.length c, .int .i64 less] w fun e w' => e = .returned (.bool true) ∧ Below w.heap.size w w' := by
  obtain ⟨hl1, hl2⟩ := lightV_spec hl
  have HC := Aside0.mk hC
  have HE := Aside0.mk (light_eq l)
  rw [hl] at HE
  have HP := Aside0.mk (show ∀ p ∈ l, okS p ∧ p.f4.size ≤ 60 from fun p hp => ⟨ho p hp, hl2 p hp⟩)
  have hn0 : ((l.length : Int) == 0) = false := beq_eq_false_iff_ne.mpr (by omega)
  clear hC ho hl2 hl
  go_enter Try.func11, Try.ntmps11
  go_wp2_with fail
  refine (ossuarylaw01_light.calls 50 A c l true w HC.out hc HE.out).mono ?_
  rintro e w1 ⟨rfl, hd⟩
  have HB := Aside0.mk (hd.below.alloc hd.below.size (.cells #[.slice none 0 0] 40 (0, 0)))
  have HW := Aside0.mk (show WrS w.heap.size w1.heap.size (.slice none 0 0) [] (w1.alloc (.cells #[.slice none 0 0] 40 (0, 0))) from ⟨blk_new w1 _, Kd.R_nil _ _ _ _ _⟩)
  have hg : w.heap.size ≤ w1.heap.size := hd.below.size
  clear hd HE
  go_wp2
  generalize hgg : w1.heap.size = g at HW hg ⊢
  go_loopw [6] (fun x6 wr => ∃ (i : Nat) (v : Value), x6 = .int .i64 i ∧ i ≤ l.length ∧ (∀ p ∈ l.take i, 1 ≤ p.f0 ∧ p.f0 ≤ 4) ∧ Aside0 (WrS w.heap.size g v (putsB (l.take i)) wr) ∧ Aside0 (Below w.heap.size w wr)) (fun x6 _ => l.length - (intOf x6).toNat)
  case atStart => exact ⟨0, _, rfl, by omega, by simp, by simpa [putsB] using HW, HB⟩
  case round =>
    clear HW HB
    obtain ⟨i, v, rfl, hi, hks, HW, HB⟩ := hrel
    by_cases d : i < l.length
    · have dl : decide ((i : Int) < (l.length : Int)) = true := decide_eq_true (by omega)
      have b1 : (0 : Int) ≤ (i : Int) := by omega
      have b2 : (i : Int) < (l.length : Int) := by omega
      have hw : wrap64 ((i : Int) + 1) = ((i + 1 : Nat) : Int) := by unfold wrap64; omega
      obtain ⟨ad, cc, rfl, -⟩ := Kd.C_get HC.out z52 (i : Int) b1 b2
      obtain ⟨f0, f1, f2, f3, f4, f5⟩ := at52 (Kd.C_below HC.out HB.out) i d
      have hp := HP.out l[i] (List.getElem_mem d)
      have hlen1 := putsB_len (l.take i) (fun q hq => HP.out q (List.mem_of_mem_take hq))
      rw [List.length_take] at hlen1
      have HO := Aside0.mk hp
      have hks' := Aside0.mk hks
      clear hp hks
      by_cases c1 : l[i].f0 < 1
      · have c1b : decide (l[i].f0 < 1) = true := decide_eq_true c1
        go_wp2_with fail
        refine (alive01.calls _).mono ?_
        rintro e wa ⟨rfl, hb⟩
        have HBa := Aside0.mk (below_step HB.out hb)
        clear hb
        go_wp2
        go_ret
        exact ⟨rfl, HBa.out⟩
      by_cases c2 : 4 < l[i].f0
      · have c1b : decide (l[i].f0 < 1) = false := decide_eq_false c1
        have c2b : decide (4 < l[i].f0) = true := decide_eq_true c2
        go_wp2_with fail
        refine (alive01.calls _).mono ?_
        rintro e wa ⟨rfl, hb⟩
        have HBa := Aside0.mk (below_step HB.out hb)
        clear hb
        go_wp2
        go_ret
        exact ⟨rfl, HBa.out⟩
      have c1b : decide (l[i].f0 < 1) = false := decide_eq_false c1
      have c2b : decide (4 < l[i].f0) = false := decide_eq_false c2
      have HKK := Aside0.mk (show 1 ≤ l[i].f0 ∧ l[i].f0 ≤ 4 by omega)
      clear c1 c2
      go_wp2_with fail
      clear f0 f1 f2 f3 f4 f5
      refine (put.calls w.heap.size g v (putsB (l.take i)) _ _ _ _ _ _ w wr HO.out.1.1 HO.out.1.2 (by have := HO.out.2; omega) (by omega) HB.out hg HW.out).mono ?_
      rintro e w4 ⟨v4, rfl, hw4, hb4, hf4, hv4⟩
      have HW4 := Aside0.mk (show WrS w.heap.size g v4 (putsB (l.take (i + 1))) w4 by rw [putsB_take l i d]; exact hw4)
      have HB4 := Aside0.mk hb4
      clear hw4 hb4 hf4 hv4 HW HB
      go_wp2
      go_roundw
      case rel =>
        refine ⟨i + 1, v4, rfl, by omega, ?_, HW4, HB4⟩
        intro p hp
        rw [show l.take (i + 1) = l.take i ++ [l[i]] by simp] at hp
        rcases List.mem_append.1 hp with hp | hp
        · exact hks'.out p hp
        · rw [List.mem_singleton] at hp
          subst hp
          exact HKK.out
      case measure => simp only [intOf]; omega
    · have hil : l.length ≤ i := by omega
      rw [List.take_of_length_le hil] at hks HW
      have HKo := Aside0.mk (show kindsOk l from fun p hp => ⟨(HP.out p hp).1, (HP.out p hp).2, hks p hp⟩)
      have hlen1 := putsB_len l HP.out
      clear hks
      go_wp2_with fail
      clear d hil hi
      refine (Bytes.calls w.heap.size g v _ wr (by omega) HW.out).mono ?_
      rintro e w7 ⟨v7, rfl, hr7, hb7⟩
      obtain ⟨A7, c7, rfl, hc7, hC7⟩ := Kd.R_reads hr7
      have HC7 := Aside0.mk hC7
      have HBW := Aside0.mk (below_step HB.out hb7)
      have hw7 : w.heap.size ≤ w7.heap.size := HBW.out.size
      clear hr7 hb7 hC7 HW HB
      go_wp2_with fail
      refine (NewReader.calls A7 c7 (putsB l) w7 HC7.out hc7 (by omega)).mono ?_
      rintro e w8 ⟨g1, rfl, hg1, hr8, hb8⟩
      have HR := Aside0.mk (show RdP g1 (putsB (l.drop 0)) 0 w8 by simpa using hr8)
      have HB := Aside0.mk hb8
      clear hr8 hb8
      go_wp2
      go_loopw [9] (fun x9 wr => ∃ (i : Nat), x9 = .int .i64 i ∧ i ≤ l.length ∧ Aside0 (RdP g1 (putsB (l.drop i)) 0 wr) ∧ Aside0 (Below w7.heap.size w7 wr)) (fun x9 _ => l.length - (intOf x9).toNat)
      case atStart => exact ⟨0, rfl, by omega, HR, HB⟩
      case round =>
        clear HR HB
        obtain ⟨i, rfl, hi, HR, HB⟩ := hrel
        by_cases d : i < l.length
        · have dl : decide ((i : Int) < (l.length : Int)) = true := decide_eq_true (by omega)
          have b1 : (0 : Int) ≤ (i : Int) := by omega
          have b2 : (i : Int) < (l.length : Int) := by omega
          have hw : wrap64 ((i : Int) + 1) = ((i + 1 : Nat) : Int) := by unfold wrap64; omega
          obtain ⟨ad, cc, rfl, -⟩ := Kd.C_get HC.out z52 (i : Int) b1 b2
          obtain ⟨f0, f1, f2, f3, f4, f5⟩ := at52 (Kd.C_below HC.out (HBW.out.trans (HB.out.mono hw7))) i d
          have HO := Aside0.mk (HKo.out l[i] (List.getElem_mem d))
          have HY := Aside0.mk (show ∀ x ∈ putsB (l.drop i), 0 ≤ x ∧ x < 256 from putsB_byte (l.drop i) (fun p hp => HKo.out p (List.mem_of_mem_drop hp)))
          have hbw : w7.heap.size ≤ wr.heap.size := HB.out.size
          have hgr : g1 < wr.heap.size := by obtain ⟨_, _, h⟩ := HR.out; exact blk_lt h.blk
          have HR0 := Aside0.mk (HR.out.below ((Below.refl _ wr).alloc (Nat.le_refl _) (.cells #[.int .i64 l[i].f0, .int .i64 l[i].f1, .int .u64 l[i].f2, .int .i64 l[i].f3, .string l[i].f4, .bool l[i].f5] 52 (0, 0))))
          have HB0 := Aside0.mk (HB.out.alloc hbw (.cells #[.int .i64 l[i].f0, .int .i64 l[i].f1, .int .u64 l[i].f2, .int .i64 l[i].f3, .string l[i].f4, .bool l[i].f5] 52 (0, 0)))
          have HK0 := Aside0.mk (blk_new wr (.cells #[.int .i64 l[i].f0, .int .i64 l[i].f1, .int .u64 l[i].f2, .int .i64 l[i].f3, .string l[i].f4, .bool l[i].f5] 52 (0, 0)))
          have hb0 : (wr.alloc (.cells #[.int .i64 l[i].f0, .int .i64 l[i].f1, .int .u64 l[i].f2, .int .i64 l[i].f3, .string l[i].f4, .bool l[i].f5] 52 (0, 0))).cell? ⟨wr.heap.size, 0, none⟩ = some (.int .i64 l[i].f0) := blk_cell HK0.out 0
          clear HR HB
          have HKd := HO.out.2.2
          rcases kinds HKd with hk | hk | hk | hk
          · clear HKd
            rw [hk] at hb0 HR0 HB0 HK0
            go_wp2_with fail
            clear f0 f1 f2 f3 f4 f5 hb0
            have HR := Aside0.mk (HR0.out.below (below_drew1 (Below.refl _ _)))
            have HB := Aside0.mk (below_drew1 HB0.out)
            have HK := Aside0.mk (blk_drew HK0.out)
            clear HR0 HB0 HK0
            generalize hpb : wr.heap.size = pb at HK hgr ⊢
            refine start_ (n := 6) (S := fun w' => w'.cell? ⟨pb, 2, none⟩ = some (.int .u64 l[i].f2)) (ds := []) #[false, false, false, false, false, false] (by kernel_rfl) rfl rfl (blk_cell HK.out 2) (fun hHeld => ?_)
            refine with_tabW pk1.tab20 pk1.bits20 (fun HT_ HW_ => ?_)
            generalize hW : (wr.alloc (.cells #[.int .i64 1, .int .i64 l[i].f1, .int .u64 l[i].f2, .int .i64 l[i].f3, .string l[i].f4, .bool l[i].f5] 52 (0, 0))).drew = W at HR HB HK hHeld ⊢
            clear hW
            refine pure_ (i := 0) (N := some 71) (v := ?_) (a' := ?_) #[true, false, false, false, false, false] rfl rfl (any_of HT_.out (by kernel_rfl)) (fun _ _ _ h => h) (Or.inl ⟨by rfl, ?_⟩) ?_ ?_
            rotate_left
            · intro w'
              go_simp
              with_reducible rfl
            rotate_left
            · simp only [Act.put, List.setIfInBounds_toArray, List.set_cons_zero, List.set_cons_succ, i64_w, i32_w]
              rfl
            refine pure_ (i := 2) (N := some 73) (v := ?_) (a' := ?_) #[true, false, true, false, false, false] rfl rfl (any_of HT_.out (by kernel_rfl)) (fun _ _ _ h => h) (Or.inl ⟨by rfl, ?_⟩) ?_ ?_
            rotate_left
            · intro w'
              go_simp
              with_reducible rfl
            rotate_left
            · simp only [Act.put, List.setIfInBounds_toArray, List.set_cons_zero, List.set_cons_succ, i64_w, i32_w]
              rfl
            refine take_ (i := 3) (N := some 74) (v := ?_) (a' := ?_) #[true, false, true, true, false, false] rfl rfl (take_ofW HT_.out HW_.out (by kernel_rfl)) (fun _ _ _ h => h) (Or.inl ⟨by rfl, ?_⟩) hHeld ?_ ?_
            rotate_left
            · intro w' s0
              go_simp
              with_reducible rfl
            rotate_left
            · simp only [Act.put, List.setIfInBounds_toArray, List.set_cons_zero, List.set_cons_succ, i64_w, i32_w]
              rfl
            refine one_ (i := 1) (N := some 72) #[true, true, true, true, false, false] rfl rfl (one_of HT_.out (by kernel_rfl)) (by decide) (fun K hK => ?_)
            have HBK := Aside0.mk (back1 l i d HO.out hk)
            refine goes_ Try.func48 (by kernel_rfl) rfl #[.pointer (some ⟨g1, 0, none⟩)] (by rfl) rfl rfl (by (try simp only [List.map_toArray, List.map_cons, List.map_nil]); first | done | rfl) ?_
            with_reducible refine (RNumS.calls w7.heap.size g1 (putsB (l.drop i), 0) w7 _ HY.out HB.out hg1 HR.out).mono ?_
            rw [HBK.out]
            rintro e w9 ⟨rfl, hr, hb, hf⟩
            refine ⟨_, rfl, ?_⟩
            have HR9 := Aside0.mk (show RdP g1 (putsB (l.drop (i + 1))) 0 w9 from hr)
            have HB9 := Aside0.mk hb
            have HK9 := Aside0.mk (hf.blk HK.out (by omega))
            clear hr hb hf HR HB HK HBK
            refine hK.out _ _ (blk_cell HK9.out 2) (fun hHeld => ?_)
            clear hK K
            refine norm_ (a' := ?_) ?_ ?_
            rotate_left
            · show Act.put _ (some 72) _ = _
              simp only [Act.put, List.setIfInBounds_toArray, List.set_cons_zero, List.set_cons_succ, i64_w, i32_w]
              rfl
            refine pure_ (i := 4) (N := some 75) (v := ?_) (a' := ?_) #[true, true, true, true, true, false] rfl rfl (any_of HT_.out (by kernel_rfl)) (fun _ _ _ h => h) (Or.inl ⟨by rfl, ?_⟩) ?_ ?_
            rotate_left
            · intro w'
              go_simp
              with_reducible rfl
            rotate_left
            · simp only [Act.put, List.setIfInBounds_toArray, List.set_cons_zero, List.set_cons_succ, i64_w, i32_w]
              rfl
            refine pure_ (i := 5) (N := some 11) (v := ?_) (a' := ?_) #[true, true, true, true, true, true] rfl rfl (any_of HT_.out (by kernel_rfl)) (fun _ _ _ h => h) (Or.inl ⟨by rfl, ?_⟩) ?_ ?_
            rotate_left
            · intro w'
              go_simp
              with_reducible rfl
            rotate_left
            · simp only [Act.put, List.setIfInBounds_toArray, List.set_cons_zero, List.set_cons_succ, i64_w, i32_w]
              rfl
            refine done_ (done_of HT_.out (by kernel_rfl)) ?_
            clear hc hn hls hl1 hn0 hg hc7 hw7 hg1 hi
            go_wp2
            exact ⟨⟨i + 1, congrArg (Value.int .i64) hw, d, HR9, HB9⟩, meas_lt3 i l.length d hw⟩
          · clear HKd
            rw [hk] at hb0 HR0 HB0 HK0
            go_wp2_with fail
            clear f0 f1 f2 f3 f4 f5 hb0
            have HR := Aside0.mk (HR0.out.below (below_drew1 (Below.refl _ _)))
            have HB := Aside0.mk (below_drew1 HB0.out)
            have HK := Aside0.mk (blk_drew HK0.out)
            clear HR0 HB0 HK0
            generalize hpb : wr.heap.size = pb at HK hgr ⊢
            refine start_ (n := 6) (S := fun w' => w'.cell? ⟨pb, 3, none⟩ = some (.int .i64 l[i].f3)) (ds := []) #[false, false, false, false, false, false] (by kernel_rfl) rfl rfl (blk_cell HK.out 3) (fun hHeld => ?_)
            refine with_tabW pk2.tab22 pk2.bits22 (fun HT_ HW_ => ?_)
            generalize hW : (wr.alloc (.cells #[.int .i64 2, .int .i64 l[i].f1, .int .u64 l[i].f2, .int .i64 l[i].f3, .string l[i].f4, .bool l[i].f5] 52 (0, 0))).drew = W at HR HB HK hHeld ⊢
            clear hW
            refine pure_ (i := 0) (N := some 78) (v := ?_) (a' := ?_) #[true, false, false, false, false, false] rfl rfl (any_of HT_.out (by kernel_rfl)) (fun _ _ _ h => h) (Or.inl ⟨by rfl, ?_⟩) ?_ ?_
            rotate_left
            · intro w'
              go_simp
              with_reducible rfl
            rotate_left
            · simp only [Act.put, List.setIfInBounds_toArray, List.set_cons_zero, List.set_cons_succ, i64_w, i32_w]
              rfl
            refine pure_ (i := 2) (N := some 80) (v := ?_) (a' := ?_) #[true, false, true, false, false, false] rfl rfl (any_of HT_.out (by kernel_rfl)) (fun _ _ _ h => h) (Or.inl ⟨by rfl, ?_⟩) ?_ ?_
            rotate_left
            · intro w'
              go_simp
              with_reducible rfl
            rotate_left
            · simp only [Act.put, List.setIfInBounds_toArray, List.set_cons_zero, List.set_cons_succ, i64_w, i32_w]
              rfl
            refine take_ (i := 3) (N := some 81) (v := ?_) (a' := ?_) #[true, false, true, true, false, false] rfl rfl (take_ofW HT_.out HW_.out (by kernel_rfl)) (fun _ _ _ h => h) (Or.inl ⟨by rfl, ?_⟩) hHeld ?_ ?_
            rotate_left
            · intro w' s0
              go_simp
              with_reducible rfl
            rotate_left
            · simp only [Act.put, List.setIfInBounds_toArray, List.set_cons_zero, List.set_cons_succ, i64_w, i32_w]
              rfl
            refine one_ (i := 1) (N := some 79) #[true, true, true, true, false, false] rfl rfl (one_of HT_.out (by kernel_rfl)) (by decide) (fun K hK => ?_)
            have HBK := Aside0.mk (back2 l i d HO.out hk)
            refine goes_ Try.func49 (by kernel_rfl) rfl #[.pointer (some ⟨g1, 0, none⟩)] (by rfl) rfl rfl (by (try simp only [List.map_toArray, List.map_cons, List.map_nil]); first | done | rfl) ?_
            with_reducible refine (RIntS.calls w7.heap.size g1 (putsB (l.drop i), 0) w7 _ HY.out HB.out hg1 HR.out).mono ?_
            rw [HBK.out]
            rintro e w9 ⟨rfl, hr, hb, hf⟩
            refine ⟨_, rfl, ?_⟩
            have HR9 := Aside0.mk (show RdP g1 (putsB (l.drop (i + 1))) 0 w9 from hr)
            have HB9 := Aside0.mk hb
            have HK9 := Aside0.mk (hf.blk HK.out (by omega))
            clear hr hb hf HR HB HK HBK
            refine hK.out _ _ (blk_cell HK9.out 3) (fun hHeld => ?_)
            clear hK K
            refine norm_ (a' := ?_) ?_ ?_
            rotate_left
            · show Act.put _ (some 79) _ = _
              simp only [Act.put, List.setIfInBounds_toArray, List.set_cons_zero, List.set_cons_succ, i64_w, i32_w]
              rfl
            refine pure_ (i := 4) (N := some 82) (v := ?_) (a' := ?_) #[true, true, true, true, true, false] rfl rfl (any_of HT_.out (by kernel_rfl)) (fun _ _ _ h => h) (Or.inl ⟨by rfl, ?_⟩) ?_ ?_
            rotate_left
            · intro w'
              go_simp
              with_reducible rfl
            rotate_left
            · simp only [Act.put, List.setIfInBounds_toArray, List.set_cons_zero, List.set_cons_succ, i64_w, i32_w]
              rfl
            refine pure_ (i := 5) (N := some 11) (v := ?_) (a' := ?_) #[true, true, true, true, true, true] rfl rfl (any_of HT_.out (by kernel_rfl)) (fun _ _ _ h => h) (Or.inl ⟨by rfl, ?_⟩) ?_ ?_
            rotate_left
            · intro w'
              go_simp
              with_reducible rfl
            rotate_left
            · simp only [Act.put, List.setIfInBounds_toArray, List.set_cons_zero, List.set_cons_succ, i64_w, i32_w]
              rfl
            refine done_ (done_of HT_.out (by kernel_rfl)) ?_
            clear hc hn hls hl1 hn0 hg hc7 hw7 hg1 hi
            go_wp2
            exact ⟨⟨i + 1, congrArg (Value.int .i64) hw, d, HR9, HB9⟩, meas_lt3 i l.length d hw⟩
          · clear HKd
            rw [hk] at hb0 HR0 HB0 HK0
            go_wp2_with fail
            clear f0 f1 f2 f3 f4 f5 hb0
            have HR := Aside0.mk (HR0.out.below (below_drew1 (Below.refl _ _)))
            have HB := Aside0.mk (below_drew1 HB0.out)
            have HK := Aside0.mk (blk_drew HK0.out)
            clear HR0 HB0 HK0
            generalize hpb : wr.heap.size = pb at HK hgr ⊢
            refine start_ (n := 6) (S := fun w' => w'.cell? ⟨pb, 4, none⟩ = some (.string l[i].f4)) (ds := []) #[false, false, false, false, false, false] (by kernel_rfl) rfl rfl (blk_cell HK.out 4) (fun hHeld => ?_)
            refine with_tabW pk3.tab24 pk3.bits24 (fun HT_ HW_ => ?_)
            generalize hW : (wr.alloc (.cells #[.int .i64 3, .int .i64 l[i].f1, .int .u64 l[i].f2, .int .i64 l[i].f3, .string l[i].f4, .bool l[i].f5] 52 (0, 0))).drew = W at HR HB HK hHeld ⊢
            clear hW
            refine pure_ (i := 0) (N := some 85) (v := ?_) (a' := ?_) #[true, false, false, false, false, false] rfl rfl (any_of HT_.out (by kernel_rfl)) (fun _ _ _ h => h) (Or.inl ⟨by rfl, ?_⟩) ?_ ?_
            rotate_left
            · intro w'
              go_simp
              with_reducible rfl
            rotate_left
            · simp only [Act.put, List.setIfInBounds_toArray, List.set_cons_zero, List.set_cons_succ, i64_w, i32_w]
              rfl
            refine pure_ (i := 2) (N := some 87) (v := ?_) (a' := ?_) #[true, false, true, false, false, false] rfl rfl (any_of HT_.out (by kernel_rfl)) (fun _ _ _ h => h) (Or.inl ⟨by rfl, ?_⟩) ?_ ?_
            rotate_left
            · intro w'
              go_simp
              with_reducible rfl
            rotate_left
            · simp only [Act.put, List.setIfInBounds_toArray, List.set_cons_zero, List.set_cons_succ, i64_w, i32_w]
              rfl
            refine take_ (i := 3) (N := some 88) (v := ?_) (a' := ?_) #[true, false, true, true, false, false] rfl rfl (take_ofW HT_.out HW_.out (by kernel_rfl)) (fun _ _ _ h => h) (Or.inl ⟨by rfl, ?_⟩) hHeld ?_ ?_
            rotate_left
            · intro w' s0
              go_simp
              with_reducible rfl
            rotate_left
            · simp only [Act.put, List.setIfInBounds_toArray, List.set_cons_zero, List.set_cons_succ, i64_w, i32_w]
              rfl
            refine one_ (i := 1) (N := some 86) #[true, true, true, true, false, false] rfl rfl (one_of HT_.out (by kernel_rfl)) (by decide) (fun K hK => ?_)
            have HBK := Aside0.mk (back3 l i d HO.out hk)
            refine goes_ Try.func50 (by kernel_rfl) rfl #[.pointer (some ⟨g1, 0, none⟩), .int .i64 60] (by rfl) rfl rfl (by (try simp only [List.map_toArray, List.map_cons, List.map_nil]); first | done | rfl) ?_
            with_reducible refine (RTextS.calls w7.heap.size g1 60 (putsB (l.drop i), 0) w7 _ (by omega) HY.out HB.out hg1 HR.out).mono ?_
            rw [HBK.out]
            rintro e w9 ⟨rfl, hr, hb, hf⟩
            refine ⟨_, rfl, ?_⟩
            have HR9 := Aside0.mk (show RdP g1 (putsB (l.drop (i + 1))) 0 w9 from hr)
            have HB9 := Aside0.mk hb
            have HK9 := Aside0.mk (hf.blk HK.out (by omega))
            clear hr hb hf HR HB HK HBK
            refine hK.out _ _ (blk_cell HK9.out 4) (fun hHeld => ?_)
            clear hK K
            refine norm_ (a' := ?_) ?_ ?_
            rotate_left
            · show Act.put _ (some 86) _ = _
              simp only [Act.put, List.setIfInBounds_toArray, List.set_cons_zero, List.set_cons_succ, i64_w, i32_w]
              rfl
            refine pure_ (i := 4) (N := some 89) (v := ?_) (a' := ?_) #[true, true, true, true, true, false] rfl rfl (any_of HT_.out (by kernel_rfl)) (fun _ _ _ h => h) (Or.inl ⟨by rfl, ?_⟩) ?_ ?_
            rotate_left
            · intro w'
              go_simp
              with_reducible rfl
            rotate_left
            · simp only [Act.put, List.setIfInBounds_toArray, List.set_cons_zero, List.set_cons_succ, i64_w, i32_w]
              rfl
            refine pure_ (i := 5) (N := some 11) (v := ?_) (a' := ?_) #[true, true, true, true, true, true] rfl rfl (any_of HT_.out (by kernel_rfl)) (fun _ _ _ h => h) (Or.inl ⟨by rfl, ?_⟩) ?_ ?_
            rotate_left
            · intro w'
              go_simp
              with_reducible rfl
            rotate_left
            · simp only [Act.put, List.setIfInBounds_toArray, List.set_cons_zero, List.set_cons_succ, i64_w, i32_w]
              rfl
            refine done_ (done_of HT_.out (by kernel_rfl)) ?_
            clear hc hn hls hl1 hn0 hg hc7 hw7 hg1 hi
            go_wp2
            exact ⟨⟨i + 1, congrArg (Value.int .i64) hw, d, HR9, HB9⟩, meas_lt3 i l.length d hw⟩
          · clear HKd
            rw [hk] at hb0 HR0 HB0 HK0
            go_wp2_with fail
            clear f0 f1 f2 f3 f4 f5 hb0
            have HR := Aside0.mk (HR0.out.below (below_drew1 (Below.refl _ _)))
            have HB := Aside0.mk (below_drew1 HB0.out)
            have HK := Aside0.mk (blk_drew HK0.out)
            clear HR0 HB0 HK0
            generalize hpb : wr.heap.size = pb at HK hgr ⊢
            refine start_ (n := 6) (S := fun w' => w'.cell? ⟨pb, 5, none⟩ = some (.bool l[i].f5)) (ds := []) #[false, false, false, false, false, false] (by kernel_rfl) rfl rfl (blk_cell HK.out 5) (fun hHeld => ?_)
            refine with_tabW pk4.tab26 pk4.bits26 (fun HT_ HW_ => ?_)
            generalize hW : (wr.alloc (.cells #[.int .i64 4, .int .i64 l[i].f1, .int .u64 l[i].f2, .int .i64 l[i].f3, .string l[i].f4, .bool l[i].f5] 52 (0, 0))).drew = W at HR HB HK hHeld ⊢
            clear hW
            refine pure_ (i := 0) (N := some 92) (v := ?_) (a' := ?_) #[true, false, false, false, false, false] rfl rfl (any_of HT_.out (by kernel_rfl)) (fun _ _ _ h => h) (Or.inl ⟨by rfl, ?_⟩) ?_ ?_
            rotate_left
            · intro w'
              go_simp
              with_reducible rfl
            rotate_left
            · simp only [Act.put, List.setIfInBounds_toArray, List.set_cons_zero, List.set_cons_succ, i64_w, i32_w]
              rfl
            refine pure_ (i := 2) (N := some 94) (v := ?_) (a' := ?_) #[true, false, true, false, false, false] rfl rfl (any_of HT_.out (by kernel_rfl)) (fun _ _ _ h => h) (Or.inl ⟨by rfl, ?_⟩) ?_ ?_
            rotate_left
            · intro w'
              go_simp
              with_reducible rfl
            rotate_left
            · simp only [Act.put, List.setIfInBounds_toArray, List.set_cons_zero, List.set_cons_succ, i64_w, i32_w]
              rfl
            refine take_ (i := 3) (N := some 95) (v := ?_) (a' := ?_) #[true, false, true, true, false, false] rfl rfl (take_ofW HT_.out HW_.out (by kernel_rfl)) (fun _ _ _ h => h) (Or.inl ⟨by rfl, ?_⟩) hHeld ?_ ?_
            rotate_left
            · intro w' s0
              go_simp
              with_reducible rfl
            rotate_left
            · simp only [Act.put, List.setIfInBounds_toArray, List.set_cons_zero, List.set_cons_succ, i64_w, i32_w]
              rfl
            refine one_ (i := 1) (N := some 93) #[true, true, true, true, false, false] rfl rfl (one_of HT_.out (by kernel_rfl)) (by decide) (fun K hK => ?_)
            have HBK := Aside0.mk (back4 l i d HO.out hk)
            refine goes_ Try.func51 (by kernel_rfl) rfl #[.pointer (some ⟨g1, 0, none⟩)] (by rfl) rfl rfl (by (try simp only [List.map_toArray, List.map_cons, List.map_nil]); first | done | rfl) ?_
            with_reducible refine (RBoolS.calls w7.heap.size g1 (putsB (l.drop i), 0) w7 _ HB.out hg1 HR.out).mono ?_
            rw [HBK.out]
            rintro e w9 ⟨rfl, hr, hb, hf⟩
            refine ⟨_, rfl, ?_⟩
            have HR9 := Aside0.mk (show RdP g1 (putsB (l.drop (i + 1))) 0 w9 from hr)
            have HB9 := Aside0.mk hb
            have HK9 := Aside0.mk (hf.blk HK.out (by omega))
            clear hr hb hf HR HB HK HBK
            refine hK.out _ _ (blk_cell HK9.out 5) (fun hHeld => ?_)
            clear hK K
            refine norm_ (a' := ?_) ?_ ?_
            rotate_left
            · show Act.put _ (some 93) _ = _
              simp only [Act.put, List.setIfInBounds_toArray, List.set_cons_zero, List.set_cons_succ, i64_w, i32_w]
              rfl
            refine pure_ (i := 4) (N := some 96) (v := ?_) (a' := ?_) #[true, true, true, true, true, false] rfl rfl (any_of HT_.out (by kernel_rfl)) (fun _ _ _ h => h) (Or.inl ⟨by rfl, ?_⟩) ?_ ?_
            rotate_left
            · intro w'
              go_simp
              with_reducible rfl
            rotate_left
            · simp only [Act.put, List.setIfInBounds_toArray, List.set_cons_zero, List.set_cons_succ, i64_w, i32_w]
              rfl
            refine pure_ (i := 5) (N := some 11) (v := ?_) (a' := ?_) #[true, true, true, true, true, true] rfl rfl (any_of HT_.out (by kernel_rfl)) (fun _ _ _ h => h) (Or.inl ⟨by rfl, ?_⟩) ?_ ?_
            rotate_left
            · intro w'
              go_simp
              with_reducible rfl
            rotate_left
            · simp only [Act.put, List.setIfInBounds_toArray, List.set_cons_zero, List.set_cons_succ, i64_w, i32_w]
              rfl
            refine done_ (done_of HT_.out (by kernel_rfl)) ?_
            clear hc hn hls hl1 hn0 hg hc7 hw7 hg1 hi
            go_wp2
            exact ⟨⟨i + 1, congrArg (Value.int .i64) hw, d, HR9, HB9⟩, meas_lt3 i l.length d hw⟩
        · have hil : l.length ≤ i := by omega
          rw [List.drop_eq_nil_of_le hil] at HR
          have HR := Aside0.mk (show RdP g1 [] 0 wr from HR.out)
          go_wp2_with fail
          clear d hil hi
          refine (Left.calls g1 [] 0 wr HR.out).mono ?_
          rintro e wb ⟨rfl, hb⟩
          have HRb := Aside0.mk (HR.out.below hb)
          have HBb := Aside0.mk (below_step HB.out hb)
          clear hb HR HB
          go_wp2_with fail
          refine (Fault.calls g1 [] 0 wb HRb.out).mono ?_
          rintro e wc ⟨rfl, hb⟩
          have HBc := Aside0.mk (below_step HBb.out hb)
          have HB := Aside0.mk (HBW.out.trans (HBc.out.mono hw7))
          clear hb HRb HBb
          by_cases c1 : less < 1
          · have e1 : decide (less < 1) = true := decide_eq_true c1
            go_wp2_with fail
            refine (alive01.calls _).mono ?_
            rintro e wa ⟨rfl, hb⟩
            have HBa := Aside0.mk (below_step HB.out hb)
            clear hb
            go_wp2
            go_ret
            exact ⟨rfl, HBa.out⟩
          by_cases c2 : ((putsB l).length : Int) < less
          · have e1 : decide (less < 1) = false := decide_eq_false c1
            have e2 : decide (((putsB l).length : Int) < less) = true := decide_eq_true c2
            go_wp2_with fail
            refine (alive01.calls _).mono ?_
            rintro e wa ⟨rfl, hb⟩
            have HBa := Aside0.mk (below_step HB.out hb)
            clear hb
            go_wp2
            go_ret
            exact ⟨rfl, HBa.out⟩
          have e1 : decide (less < 1) = false := decide_eq_false c1
          have e2 : decide (((putsB l).length : Int) < less) = false := decide_eq_false c2
          obtain ⟨m, rfl⟩ : ∃ m : Nat, less = m := ⟨less.toNat, by omega⟩
          have hm1 : 1 ≤ m := by omega
          have hm2 : m ≤ (putsB l).length := by omega
          have hws : wrap64 (((putsB l).length : Int) - (m : Int)) = (((putsB l).length - m : Nat) : Int) := by unfold wrap64; omega
          obtain ⟨i5, hi5, hs5⟩ := info5i
          have hcut1 := cut_to (P := Try.prog) 32 5 .i64 Try.underlying32 hi5 A7 (putsB l).length c7 (((putsB l).length - m : Nat) : Int) (by omega) (by omega) hc7
          have htl : ((putsB l).take ((putsB l).length - m)).length = (putsB l).length - m := by rw [List.length_take]; omega
          have hN := NewReader.calls A7 c7 ((putsB l).take ((putsB l).length - m)) wc (Kd.C_take (Kd.C_below HC7.out HBc.out) (m := (putsB l).length - m) (by omega)) (by rw [htl]; omega) (by rw [htl]; omega)
          rw [htl] at hN
          have HN := Aside0.mk hN
          have HM1 := Aside0.mk hm1
          have HM2 := Aside0.mk hm2
          clear htl hN hi5 hm1 hm2
          go_wp2_with fail
          clear hcut1 hws e1 e2 c1 c2
          refine HN.out.mono ?_
          rintro e wd ⟨g2, rfl, hg2, hr, hb⟩
          have hxd := Aside0.mk (show XdP wd.heap.size (putsB l) 0 (wd.alloc (.cells #[.slice A7 (putsB l).length c7, .int .i64 0] 69 (0, 0))) from ⟨A7, c7, blk_new wd _, hc7, Kd.C_alloc (Kd.C_below (Kd.C_below HC7.out HBc.out) hb) _, fun ad e hp => by subst e; exact Nat.lt_of_lt_of_le (Kd.C_lt HC7.out hp (by decide)) (Nat.le_trans HBc.out.size hb.size)⟩)
          have HR := Aside0.mk (hr.below ((Below.refl _ wd).alloc (Nat.le_refl _) (.cells #[.slice A7 (putsB l).length c7, .int .i64 0] 69 (0, 0))))
          have HBd := Aside0.mk (below_step HB.out hb)
          have hgx : g2 < wd.heap.size := by obtain ⟨_, _, h⟩ := hr; exact blk_lt h.blk
          have hwg : w.heap.size ≤ g2 := Nat.le_trans HB.out.size hg2
          have HBe := Aside0.mk (HBd.out.alloc HBd.out.size (.cells #[.slice A7 (putsB l).length c7, .int .i64 0] 69 (0, 0)))
          clear hr hb HBd HB HBc HC7 HBW HN
          go_wp2
          generalize hxx : wd.heap.size = x at hxd hgx ⊢
          go_loopw [13] (fun x13 wr => ∃ (i : Nat) (s t : List Int × Int), x13 = .int .i64 i ∧ i ≤ l.length ∧ Aside0 (lessI l m i s) ∧ Aside0 (∀ y ∈ s.1, 0 ≤ y ∧ y < 256) ∧ Aside0 (∀ y ∈ t.1, 0 ≤ y ∧ y < 256) ∧ Aside0 (RdP g2 s.1 s.2 wr) ∧ Aside0 (XdP x t.1 t.2 wr) ∧ Aside0 (Below w.heap.size w wr)) (fun x13 _ => l.length - (intOf x13).toNat)
          case atStart => exact ⟨0, ((putsB l).take ((putsB l).length - m), 0), (putsB l, 0), rfl, by omega, ⟨less_start l m HM2.out⟩, ⟨fun y hy => putsB_byte l HKo.out y (List.mem_of_mem_take hy)⟩, ⟨putsB_byte l HKo.out⟩, HR, hxd, HBe⟩
          case round =>
            clear HR hxd HBe
            obtain ⟨i, s, t, rfl, hi, HL, HS, HT, HR, HX, HB⟩ := hrel
            by_cases d : i < l.length
            · have dl : decide ((i : Int) < (l.length : Int)) = true := decide_eq_true (by omega)
              have b1 : (0 : Int) ≤ (i : Int) := by omega
              have b2 : (i : Int) < (l.length : Int) := by omega
              have hw : wrap64 ((i : Int) + 1) = ((i + 1 : Nat) : Int) := by unfold wrap64; omega
              obtain ⟨ad, cc, rfl, -⟩ := Kd.C_get HC.out z52 (i : Int) b1 b2
              obtain ⟨f0, f1, f2, f3, f4, f5⟩ := at52 (Kd.C_below HC.out HB.out) i d
              have HO := Aside0.mk (HKo.out l[i] (List.getElem_mem d))
              have hxr : x < wr.heap.size := by obtain ⟨_, _, h⟩ := HX.out; exact blk_lt h.blk
              have hwr : w.heap.size ≤ wr.heap.size := HB.out.size
              have HR2 := Aside0.mk (HR.out.below ((Below.refl _ wr).alloc (Nat.le_refl _) (.cells #[.int .i64 l[i].f0, .int .i64 60, .int .u64 l[i].f2, .int .i64 l[i].f3, .string l[i].f4, .bool l[i].f5] 52 (0, 0))))
              have HX2 := Aside0.mk (HX.out.below ((Below.refl _ wr).alloc (Nat.le_refl _) (.cells #[.int .i64 l[i].f0, .int .i64 60, .int .u64 l[i].f2, .int .i64 l[i].f3, .string l[i].f4, .bool l[i].f5] 52 (0, 0))))
              have HB2 := Aside0.mk (HB.out.alloc hwr (.cells #[.int .i64 l[i].f0, .int .i64 60, .int .u64 l[i].f2, .int .i64 l[i].f3, .string l[i].f4, .bool l[i].f5] 52 (0, 0)))
              have hw2 := Aside0.mk hw
              clear HR HX HB
              go_wp2_with fail
              clear f0 f1 f2 f3 f4 f5
              refine (one.calls w.heap.size g2 x s t _ _ _ _ _ _ w _ HO.out.2.2 HS.out HT.out rfl HB2.out hwg hgx HR2.out HX2.out).mono ?_
              rintro e w9 ⟨⟨r, rfl⟩, hr, hx, hb, hf⟩
              have HR9 := Aside0.mk hr
              have HX9 := Aside0.mk hx
              have HB9 := Aside0.mk hb
              have HL9 := Aside0.mk (less_step l HKo.out m i HM1.out d s HL.out)
              have HS9 := Aside0.mk (show ∀ y ∈ (stepS l[i].f0 60 s).1, 0 ≤ y ∧ y < 256 from fun y hy => HS.out y (stepS_sub _ _ s y hy))
              have HT9 := Aside0.mk (show ∀ y ∈ (stepS l[i].f0 60 t).1, 0 ≤ y ∧ y < 256 from fun y hy => HT.out y (stepS_sub _ _ t y hy))
              clear hr hx hb hf HR2 HX2 HB2
              clear hc hn hls hl1 hn0 hg hc7 hw7 hg1 hi hlen1
              go_wp2
              have hw := hw2.out
              exact ⟨⟨i + 1, _, _, congrArg (Value.int .i64) hw, d, HL9, HS9, HT9, HR9, HX9, HB9⟩, meas_lt3 i l.length d hw⟩
            · obtain rfl : i = l.length := by omega
              have h3 := less_end l m HM1.out s HL.out
              have HR3 := HR.out
              rw [h3] at HR3
              have HR3 := Aside0.mk HR3
              clear HR HX h3
              go_wp2_with fail
              refine (Fault.calls g2 _ 3 wr HR3.out).mono ?_
              rintro e wz ⟨rfl, hb⟩
              have HBz := Aside0.mk (below_step HB.out hb)
              clear hb HB HR3
              have HB := HBz
              clear HBz
              go_wp2_with fail
              refine (alive01.calls _).mono ?_
              rintro e wa ⟨rfl, hb⟩
              have HBa := Aside0.mk (below_step HB.out hb)
              clear hb
              go_wp2
              go_ret
              exact ⟨rfl, HBa.out⟩
set_option maxHeartbeats 8000000 in
set_option maxRecDepth 100000 in
theorem pk.heavy (A : Option Addr) (c : Nat) (l : List S52) (less : Int) (w : World) (hC : Kd.C k52 w A l.length l) (hc : l.length ≤ c) (hl : lightV l = false) :
    Calls Try.prog 11 #[.slice A l.length c, .int .i64 less] w fun e w' => e = .returned (.bool true) ∧ Below w.heap.size w w' := by
  have HC := Aside0.mk hC
  have HE := Aside0.mk (light_eq l)
  rw [hl] at HE
  clear hC hl
  go_enter Try.func11, Try.ntmps11
  go_wp2_with fail
  refine (ossuarylaw01_light.calls 50 A c l false w HC.out hc HE.out).mono ?_
  rintro e w1 ⟨rfl, hd⟩
  have HB := Aside0.mk hd.below
  clear hd HE
  go_wp2_with fail
  refine (alive01.calls _).mono ?_
  rintro e wa ⟨rfl, hb⟩
  have HBa := Aside0.mk (below_step HB.out hb)
  clear hb
  go_wp2
  go_ret
  exact ⟨rfl, HBa.out⟩
set_option maxHeartbeats 8000000 in
set_option maxRecDepth 100000 in
theorem pk.empty (A : Option Addr) (c : Nat) (less : Int) (w : World) (hC : Kd.C k52 w A 0 []) :
    Calls Try.prog 11 #[.slice A 0 c, .int .i64 less] w fun e w' => e = .returned (.bool true) ∧ Below w.heap.size w w' := by
  have HC := Aside0.mk hC
  have HE := Aside0.mk (show ossuarylaw01_light.f 50 [] = some true from light_eq [])
  clear hC
  go_enter Try.func11, Try.ntmps11
  go_wp2_with fail
  refine (ossuarylaw01_light.calls 50 A c [] true w HC.out (by simp) HE.out).mono ?_
  rintro e w1 ⟨rfl, hd⟩
  have HB := Aside0.mk hd.below
  clear hd HE
  go_wp2_with fail
  refine (alive01.calls _).mono ?_
  rintro e wa ⟨rfl, hb⟩
  have HBa := Aside0.mk (below_step HB.out hb)
  clear hb
  go_wp2
  go_ret
  exact ⟨rfl, HBa.out⟩
end Wr
def ossuarylaw01_PackBack.f (l : List S52) (less : Int) : Option Bool := if l.all okB = true ∧ -9223372036854775808 ≤ less ∧ less < 9223372036854775808 then some true else none
open Wr in
theorem ossuarylaw01_PackBack.calls (A : Option Addr) (c : Nat) (l : List S52) (less : Int) (r : Bool) (w : World) (hC : Kd.C k52 w A l.length l) (hc : l.length ≤ c) (h : ossuarylaw01_PackBack.f l less = some r) :
    Calls Try.prog 11 #[.slice A l.length c, .int .i64 less] w fun e w' => e = .returned (.bool r) ∧ Below w.heap.size w w' := by
  unfold ossuarylaw01_PackBack.f at h
  split at h
  case isFalse => exact absurd h (by simp)
  rename_i ho
  obtain rfl := Option.some.inj h
  have ho' : ∀ p ∈ l, okS p := by
    intro p hp
    have := List.all_eq_true.1 ho.1 p hp
    unfold okB at this
    simp at this
    exact ⟨⟨by omega, by omega⟩, by omega, by omega⟩
  by_cases hn : 0 < l.length
  · cases hl : lightV l with
    | true => exact pk.main A c l less w hC hc ho' hl hn ho.2
    | false => exact pk.heavy A c l less w hC hc hl
  · obtain rfl : l = [] := by cases l with
      | nil => rfl
      | cons a t => simp at hn
    exact pk.empty A c less w hC
end Go.Proofs.Ytjegkfdcelodeaa.P
