import Derived.Test.YtiokjjadpobciaaLn4
namespace Go.Proofs.Ytiokjjadpobciaa.P
open Go.RowKit Go.Conc Go.Proofs.YtiokjjadpobciaaW.PrintWords Go.Proofs.YtiokjjadpobciaaW.PrintLast Go.Proofs.YtiokjjadpobciaaW.PrintMore
attribute [local go_sem] max2_int min2_int max_two min_two max_three min_three max_four min_four
set_option linter.unusedVariables false
set_option linter.unusedSimpArgs false
namespace Ln
/-- It is a channel's block. -/
def isCh (w : World) (k : Nat) : Prop := ∃ cap buf cl s r tm, w.heap[k]? = some (Obj.chan cap buf cl s r tm)
theorem Ch.is {w : World} {c room : Nat} {q : List Int} (h : Ch w c room q) : isCh w c := by
  obtain ⟨s, r, h⟩ := h
  exact ⟨_, _, _, _, _, _, h⟩
def lane (L : List (List Int)) (i : Int) : Bool := decide (0 ≤ i) && decide (i < L.length)
/-- What Put answers, and what it leaves. -/
def putV (room : Nat) (L : List (List Int)) (i x : Int) : Int × List (List Int) :=
  if lane L i then (if (L.getD i.toNat []).length < room then (0, L.set i.toNat (L.getD i.toNat [] ++ [x])) else (7, L)) else (2, L)
def fromV (L : List (List Int)) (i : Int) : Int × Bool × List (List Int) :=
  if lane L i then (match L.getD i.toNat [] with | [] => (0, false, L) | x :: q => (x, true, L.set i.toNat q)) else (0, false, L)
def lenV (L : List (List Int)) (i : Int) : Int := if lane L i then (L.getD i.toNat []).length else 0
def takeV : Nat → Nat → List (List Int) → Int × Int × Bool × List (List Int)
  | 0, _, L => (0, 0, false, L)
  | d + 1, i, L => match L.getD i [] with | [] => takeV d (i + 1) L | x :: q => (i, x, true, L.set i q)
theorem lane_of {L : List (List Int)} {i : Int} (h : lane L i = true) : ∃ n : Nat, i = n ∧ n < L.length := by
  unfold lane at h
  simp at h
  exact ⟨i.toNat, by omega, by omega⟩
theorem lane_not {L : List (List Int)} {i : Int} (h : ¬ lane L i = true) : i < 0 ∨ (L.length : Int) ≤ i := by
  unfold lane at h
  simp at h
  omega
/-- What a call on lanes leaves. -/
def LPost (B g room : Nat) (L : List (List Int)) (w0 w w' : World) : Prop := LnP B g room L w' ∧ Below B w0 w' ∧ Far w w' (isCh w)
theorem LPost.same {B g room : Nat} {L : List (List Int)} {w0 w : World} (h : LnP B g room L w) (hB : Below B w0 w) : LPost B g room L w0 w w := ⟨h, hB, Far.refl _ _⟩
theorem LPost.turn {B g room : Nat} {v : Value} {cs : List Nat} {L : List (List Int)} {w0 w : World} (h : LnS B g v cs room L w) (hB : Below B w0 w) {i c : Nat} (hi : cs[i]? = some c) (q : List Int) (hq : q.length ≤ room) (s r : Nat) :
    LPost B g room (L.set i q) w0 w (w.setChan c room (q.map (Value.int .i64)).toArray false s r false) :=
  ⟨⟨v, cs, h.turn hi q hq s r⟩, below_setChan hB (h.lo c (List.mem_of_getElem? hi)) _ _ _ _ _ _, (Far.refl w _).setChan (.inr (h.ch i c hi).is) _ _ _ _ _ _⟩
theorem LPost.trans {B g room : Nat} {L L' : List (List Int)} {w0 w w1 w2 : World} (h1 : LPost B g room L w0 w w1) (h2 : LPost B g room L' w0 w1 w2) (hB : ∀ k, k < w.heap.size → isCh w1 k → isCh w k) : LPost B g room L' w0 w w2 :=
  ⟨h2.1, h2.2.1, h1.2.2.trans h2.2.2 hB⟩
theorem LnS.chan_of {B g room : Nat} {v : Value} {cs : List Nat} {L : List (List Int)} {w : World} (h : LnS B g v cs room L w) {i : Nat} (hi : i < L.length) : ∃ c, cs[i]? = some c := ⟨cs[i]'(by rw [← h.len]; exact hi), by simp⟩
theorem LnS.fits {B g room : Nat} {v : Value} {cs : List Nat} {L : List (List Int)} {w : World} (h : LnS B g v cs room L w) (i : Nat) : (L.getD i []).length ≤ room := by
  rw [List.getD_eq_getElem?_getD]
  rcases Nat.lt_or_ge i L.length with hi | hi
  · rw [List.getElem?_eq_getElem hi]; exact h.fit _ (List.getElem_mem hi)
  · rw [List.getElem?_eq_none hi]; simp
theorem Put.calls (B g room : Nat) (L : List (List Int)) (i x : Int) (w0 w : World) (hB : Below B w0 w) (h : LnP B g room L w) :
    Calls Try.prog 14 #[.pointer (some ⟨g, 0, none⟩), .int .i64 i, .int .i64 x] w fun e w' => e = .returned (.int .i64 (putV room L i x).1) ∧ LPost B g room (putV room L i x).2 w0 w w' := by
  obtain ⟨v, cs, h⟩ := h
  by_cases hl : lane L i = true
  · obtain ⟨n, rfl, hn⟩ := lane_of hl
    obtain ⟨c, hc⟩ := h.chan_of hn
    by_cases hr : (L.getD n []).length < room
    · have e : putV room L n x = (0, L.set n (L.getD n [] ++ [x])) := by unfold putV; rw [if_pos hl]; simp only [Int.toNat_natCast]; rw [if_pos hr]
      rw [e]
      refine (Put_room.calls B g room v cs L n c x w h hc hr).mono ?_
      rintro e w' ⟨rfl, s, r, rfl⟩
      exact ⟨rfl, LPost.turn h hB hc _ (by rw [List.length_append, List.length_cons, List.length_nil]; omega) s r⟩
    · have e : putV room L n x = (7, L) := by unfold putV; rw [if_pos hl]; simp only [Int.toNat_natCast]; rw [if_neg hr]
      rw [e]
      refine (Put_full.calls B g room v cs L n c x w h hc (by omega)).mono ?_
      rintro e w' ⟨rfl, rfl⟩
      exact ⟨rfl, LPost.same ⟨v, cs, h⟩ hB⟩
  · have e : putV room L i x = (2, L) := by unfold putV; rw [if_neg hl]
    rw [e]
    refine (Put_out.calls B g room v cs L i x w h (by have := lane_not hl; rw [h.len] at this; exact this)).mono ?_
    rintro e w' ⟨rfl, rfl⟩
    exact ⟨rfl, LPost.same ⟨v, cs, h⟩ hB⟩
theorem From.calls (B g room : Nat) (L : List (List Int)) (i : Int) (w0 w : World) (hB : Below B w0 w) (h : LnP B g room L w) :
    Calls Try.prog 20 #[.pointer (some ⟨g, 0, none⟩), .int .i64 i] w fun e w' => e = .returned (.tuple #[.int .i64 (fromV L i).1, .bool (fromV L i).2.1]) ∧ LPost B g room (fromV L i).2.2 w0 w w' := by
  obtain ⟨v, cs, h⟩ := h
  by_cases hl : lane L i = true
  · obtain ⟨n, rfl, hn⟩ := lane_of hl
    obtain ⟨c, hc⟩ := h.chan_of hn
    unfold fromV
    rw [if_pos hl]
    simp only [Int.toNat_natCast]
    cases hq : L.getD n [] with
    | nil =>
      refine (From_empty.calls B g room v cs L n c w h hc hq).mono ?_
      rintro e w' ⟨rfl, rfl⟩
      exact ⟨rfl, LPost.same ⟨v, cs, h⟩ hB⟩
    | cons x q =>
      refine (From_some.calls B g room v cs L n c x q w h hc hq).mono ?_
      rintro e w' ⟨rfl, s, r, rfl⟩
      exact ⟨rfl, LPost.turn h hB hc _ (by have := h.fits n; rw [hq] at this; simp at this; omega) s r⟩
  · unfold fromV
    rw [if_neg hl]
    refine (From_out.calls B g room v cs L i w h (by have := lane_not hl; rw [h.len] at this; exact this)).mono ?_
    rintro e w' ⟨rfl, rfl⟩
    exact ⟨rfl, LPost.same ⟨v, cs, h⟩ hB⟩
theorem Len.calls (B g room : Nat) (L : List (List Int)) (i : Int) (w : World) (h : LnP B g room L w) :
    Calls Try.prog 19 #[.pointer (some ⟨g, 0, none⟩), .int .i64 i] w fun e w' => e = .returned (.int .i64 (lenV L i)) ∧ w' = w := by
  obtain ⟨v, cs, h⟩ := h
  unfold lenV
  by_cases hl : lane L i = true
  · rw [if_pos hl]
    obtain ⟨n, rfl, hn⟩ := lane_of hl
    obtain ⟨c, hc⟩ := h.chan_of hn
    exact Len_in.calls B g room v cs L n c w h hc
  · rw [if_neg hl]
    exact Len_out.calls B g room v cs L i w h (by have := lane_not hl; rw [h.len] at this; exact this)
set_option maxHeartbeats 8000000 in
set_option maxRecDepth 100000 in
theorem Take_nil.calls (w : World) :
    Calls Try.prog 15 #[.pointer none] w fun e w' => e = .returned (.tuple #[.int .i64 0, .int .i64 0, .bool false]) ∧ w' = w := by
  go_enter Try.func15, Try.ntmps15
  go_wp2
  go_ret3
  exact ⟨rfl, rfl⟩
set_option maxHeartbeats 8000000 in
set_option maxRecDepth 100000 in
theorem Take.calls (B g room : Nat) (L : List (List Int)) (w0 w : World) (hB : Below B w0 w) (h : LnP B g room L w) :
    Calls Try.prog 15 #[.pointer (some ⟨g, 0, none⟩)] w fun e w' => e = .returned (.tuple #[.int .i64 (takeV L.length 0 L).1, .int .i64 (takeV L.length 0 L).2.1, .bool (takeV L.length 0 L).2.2.1]) ∧ LPost B g room (takeV L.length 0 L).2.2.2 w0 w w' := by
  obtain ⟨v, cs, h⟩ := h
  have hc := h.cell
  have hf := h.free
  obtain ⟨A, cp, e, hl, hr⟩ := Kd.R_reads h.row
  rw [e, ← h.len] at hc
  have hmax : L.length ≤ 9223372036854775807 := by rw [h.len]; exact hr.2.1
  have HL := Aside0.mk h
  have HB := Aside0.mk hB
  clear h hB hr e
  go_enter Try.func15, Try.ntmps15
  go_wp2
  go_loopw [13, 3] (fun x13 x3 wr => ∃ (i : Nat), x13 = .int .i64 i ∧ x3 = .int .i64 0 ∧ i ≤ L.length ∧ Aside0 (takeV L.length 0 L = takeV (L.length - i) i L) ∧ wr = w) (fun x13 _ _ => L.length - (intOf x13).toNat)
  case atStart => exact ⟨0, rfl, rfl, by omega, ⟨rfl⟩, rfl⟩
  case round =>
    obtain ⟨i, rfl, rfl, hi, HT, rfl⟩ := hrel
    by_cases d : i < L.length
    · have dl : decide ((i : Int) < (L.length : Int)) = true := decide_eq_true (by omega)
      obtain ⟨c, hci⟩ := HL.out.chan_of d
      have ht : takeV (L.length - i) i L = match L.getD i [] with | [] => takeV (L.length - (i + 1)) (i + 1) L | x :: q => (i, x, true, L.set i q) := by
        rw [show L.length - i = (L.length - (i + 1)) + 1 from by omega]; rfl
      have hw : wrap64 ((i : Int) + 1) = ((i + 1 : Nat) : Int) := by unfold wrap64; omega
      go_wp2_with fail
      cases hq : L.getD i [] with
      | nil =>
        rw [hq] at ht
        have HT2 := Aside0.mk (HT.out.trans ht)
        clear HT ht
        refine (From_empty.calls B g room v cs L i c _ HL.out hci hq).mono ?_
        rintro e w' ⟨rfl, rfl⟩
        go_wp2
        go_roundw
        case rel =>
          refine ⟨i + 1, rfl, rfl, by omega, HT2, ?_⟩
          trivial
        case measure => simp only [intOf]; omega
      | cons x q =>
        rw [hq] at ht
        have HT2 := Aside0.mk (HT.out.trans ht)
        clear HT ht
        refine (From_some.calls B g room v cs L i c x q _ HL.out hci hq).mono ?_
        rintro e w' ⟨rfl, s, r, rfl⟩
        go_wp2
        go_ret3
        rw [HT2.out]
        exact ⟨rfl, LPost.turn HL.out HB.out hci _ (by have := HL.out.fits i; rw [hq] at this; simp at this; omega) s r⟩
    · have dl : decide ((i : Int) < (L.length : Int)) = false := decide_eq_false (by omega)
      have him : i = L.length := by omega
      subst him
      go_wp2
      go_ret3
      rw [HT.out, Nat.sub_self]
      exact ⟨rfl, LPost.same ⟨v, cs, HL.out⟩ HB.out⟩
end Ln
end Go.Proofs.Ytiokjjadpobciaa.P
