import Derived.Test.YtiokjjadpobciaaDrF
import Derived.Test.YtiokjjadpobciaaDr6
namespace Go.Proofs.Ytiokjjadpobciaa.P
open Go.RowKit Go.Conc Go.Proofs.YtiokjjadpobciaaW.PrintWords Go.Proofs.YtiokjjadpobciaaW.PrintLast Go.Proofs.YtiokjjadpobciaaW.PrintMore
set_option linter.unusedVariables false
set_option linter.unusedSimpArgs false
namespace Dr
open Ln
theorem regV_size (i : Int) : (regV i).size ≤ 16 := by
  unfold regV
  split
  · decide
  · split <;> decide
theorem appV_size (i : Int) : (appV i).size ≤ 16 := by
  unfold appV
  split <;> decide
theorem factV_ok (x hour : Int) (h0 : 0 ≤ hour) (h1 : hour ≤ 1000000) : FOk (factV x hour) := by
  have a := hourV_bd x hour h0 h1
  have b := thr_bd (nxt (nxt (nxt x))) 100 (by omega)
  exact ⟨by show 0 ≤ hourV x hour ∧ hourV x hour ≤ _; omega, by show _ ≤ thr (nxt (nxt (nxt x))) 100 - 20 ∧ thr (nxt (nxt (nxt x))) 100 - 20 ≤ _; omega, regV_size _, appV_size _⟩
theorem facG_ok (kind x hour : Int) (h0 : 0 ≤ hour) (h1 : hour ≤ 1000000) : FOk (facG kind x hour).1 := by
  have hf := factV_ok x hour h0 h1
  unfold facG
  split
  · obtain ⟨a, b, c, d⟩ := hf
    have t := thr_bd (nxt4 x) 40 (by omega)
    have e := hourV_bd x hour h0 h1
    refine ⟨?_, b, c, d⟩
    show 0 ≤ lateV kind (hourV x hour) (thr (nxt4 x) 40) ∧ lateV kind (hourV x hour) (thr (nxt4 x) 40) ≤ _
    unfold lateV
    split <;> omega
  · exact hf
theorem ingL_ok (kind x hour : Int) (h0 : 0 ≤ hour) (h1 : hour ≤ 1000000) : ∀ j, ∀ f ∈ ingL kind x hour j, FOk f
  | 0 => fun f hf => by simp [ingL] at hf
  | j + 1 => fun f hf => by
    unfold ingL at hf
    rcases List.mem_append.mp hf with h | h
    · exact ingL_ok kind x hour h0 h1 j f h
    · obtain rfl := List.mem_singleton.mp h
      exact facG_ok _ _ _ h0 h1
theorem oneS_ok (kind : Int) (i : Nat) (s : Sc) (h0 : 0 ≤ s.hour) (h1 : s.hour ≤ 1000000) (h : ∀ x ∈ s.xs, SOk x) : ∀ x ∈ (oneS kind i s).xs, SOk x := by
  have t3 := thr_bd (nxt s.x) 3 (by omega)
  unfold oneS ingS tickS workS othS
  split
  · intro x hx
    rcases List.mem_append.mp hx with hx | hx
    · exact h x hx
    · obtain rfl := List.mem_singleton.mp hx
      exact .inl ⟨rfl, rfl, rfl, rfl, by show 1 ≤ (ingL _ _ _ _).length ∧ (ingL _ _ _ _).length ≤ 50; rw [ingL_len]; show 1 ≤ (thr (nxt s.x) 3 + 1).toNat ∧ (thr (nxt s.x) 3 + 1).toNat ≤ 50; omega, ingL_ok _ _ _ h0 h1 _⟩
  · split
    · intro x hx
      rcases List.mem_append.mp hx with hx | hx
      · exact h x hx
      · obtain rfl := List.mem_singleton.mp hx
        exact .inr (.inr (.inl ⟨.inl rfl, rfl, rfl, rfl⟩))
    · split
      · intro x hx
        rcases List.mem_append.mp hx with hx | hx
        · exact h x hx
        · obtain rfl := List.mem_singleton.mp hx
          exact .inr (.inr (.inl ⟨.inr (.inl rfl), rfl, rfl, rfl⟩))
      · split
        · intro x hx
          rcases List.mem_append.mp hx with hx | hx
          · exact h x hx
          · simp only [List.mem_cons, List.not_mem_nil, or_false] at hx
            rcases hx with rfl | rfl | rfl | rfl
            · exact .inr (.inr (.inl ⟨.inr (.inr (.inl rfl)), rfl, rfl, rfl⟩))
            · exact .inr (.inr (.inl ⟨.inr (.inl rfl), rfl, rfl, rfl⟩))
            · exact .inr (.inr (.inl ⟨.inr (.inr (.inr rfl)), rfl, rfl, rfl⟩))
            · exact .inr (.inr (.inr (.inl ⟨rfl, rfl, rfl, rfl, rfl⟩)))
        · split
          · intro x hx
            rcases List.mem_append.mp hx with hx | hx
            · exact h x hx
            · obtain rfl := List.mem_singleton.mp hx
              exact .inr (.inr (.inr (.inr ⟨rfl, rfl, rfl, rfl, by decide⟩)))
          · intro x hx
            rcases List.mem_append.mp hx with hx | hx
            · exact h x hx
            · obtain rfl := List.mem_singleton.mp hx
              exact .inr (.inl ⟨rfl, rfl, rfl, rfl, rfl⟩)
theorem stpS_ok (kind seed : Int) : ∀ i, i ≤ 300 → ∀ x ∈ (stpS kind seed i).xs, SOk x
  | 0, _ => fun x hx => by simp [stpS] at hx
  | i + 1, hi => by
    have hb := stpS_bd kind seed i
    exact oneS_ok kind i _ hb.1 (by omega) (stpS_ok kind seed i (by omega))
theorem SOk.short {l : List Sx} (h : ∀ x ∈ l, SOk x) : Dr.short l := fun x hx => by
  have := h x hx
  unfold SOk at this
  rcases this with h | h | h | h | h <;> simp [h] <;> omega
end Dr
end Go.Proofs.Ytiokjjadpobciaa.P
