/- The program's AllWhole and the reference's answer alike for all numbers (the law's pure statement; no condition): out of 1 to 4 both tell that there is nothing, and within they are run by the kernel. -/
import Derived.Test.YtnnkjjacpbbigaaMFnExactAllWhole1
set_option linter.unusedVariables false
set_option linter.unusedSimpArgs false
namespace Go.Proofs.Ytnnkjjacpbbigaa.Pure
open Go.RowKit Go.Proofs.Ytnnkjjacpbbigaa.PB Go.Proofs.YtnnkjjacpbbigaaW.PrintWords Go.Proofs.YtnnkjjacpbbigaaW.PrintLast Go.Proofs.YtnnkjjacpbbigaaW.PrintMore
def eqS : List S41 → List S41 → Bool
  | [], [] => true
  | a :: l, b :: m => decide (a.f0 = b.f0) && (decide (a.f1 = b.f1) && eqS l m)
  | _, _ => false
theorem eqS_eq : ∀ l m, eqS l m = true → l = m
  | [], [], _ => rfl
  | [], _ :: _, h => by cases h
  | _ :: _, [], h => by cases h
  | ⟨a, b⟩ :: l, ⟨c, d⟩ :: m, h => by
    simp only [eqS, Bool.and_eq_true, decide_eq_true_eq] at h
    obtain ⟨rfl, rfl, h3⟩ := h
    rw [eqS_eq l m h3]
def chk (a b : Option (List S41 × Bool)) : Bool := match a, b with
  | some (x, true), some (y, true) => eqS x y && (decide (x.length ≤ 1000) && x.all fun p => decide (p.f0.length ≤ 1000) && decide (p.f1.length ≤ 1000))
  | _, _ => false
theorem chk_some {a b : Option (List S41 × Bool)} (h : chk a b = true) : ∃ r, a = some (r, true) ∧ b = some (r, true) ∧ cl_fitM r := by
  unfold chk at h
  split at h
  · rename_i x y
    simp only [Bool.and_eq_true, decide_eq_true_eq] at h
    obtain ⟨h1, h2, h3⟩ := h
    obtain rfl := eqS_eq _ _ h1
    refine ⟨x, rfl, rfl, by omega, fun p hp => ?_⟩
    have := List.all_eq_true.1 h3 p hp
    simpa using this
  · cases h
set_option maxRecDepth 100000 in
theorem t1 : chk (spec_AllWhole.f 1000 1) (impl_AllWhole.f 1000 1) = true := by decide +kernel
set_option maxRecDepth 100000 in
theorem t2 : chk (spec_AllWhole.f 1000 2) (impl_AllWhole.f 1000 2) = true := by decide +kernel
set_option maxRecDepth 100000 in
theorem t3 : chk (spec_AllWhole.f 1000 3) (impl_AllWhole.f 1000 3) = true := by decide +kernel
set_option maxRecDepth 100000 in
theorem t4 : chk (spec_AllWhole.f 1000 4) (impl_AllWhole.f 1000 4) = true := by decide +kernel
theorem in_yes (n : Int) (h1 : 1 ≤ n) (h2 : n ≤ 4) : spec_l1In.f n 1 4 = some true ∧ impl_in.f n 1 4 = some true := by
  unfold spec_l1In.f impl_in.f
  constructor
  · rw [if_pos (by omega), decide_eq_true (by omega)]
  · rw [if_pos (by omega), decide_eq_true (by omega)]
theorem in_no (n : Int) (h : n < 1 ∨ 4 < n) : spec_l1In.f n 1 4 = some false ∧ impl_in.f n 1 4 = some false := by
  unfold spec_l1In.f impl_in.f
  constructor
  · by_cases h1 : n ≥ 1
    · rw [if_pos h1, decide_eq_false (by omega)]
    · rw [if_neg h1]
  · by_cases h1 : 1 ≤ n
    · rw [if_pos h1, decide_eq_false (by omega)]
    · rw [if_neg h1]
theorem FnExactAllWhole : laws_FnExactAllWhole.Pure := by
  intro n _
  by_cases h : n < 1 ∨ 4 < n
  · obtain ⟨h1, h2⟩ := in_no n h
    refine ⟨1, [], false, ?_, ?_, by simp, fun x hx => absurd hx List.not_mem_nil⟩
    · unfold spec_AllWhole.f
      rw [h1]
      simp
    · unfold impl_AllWhole.f
      rw [h2]
      simp
  · have h' : n = 1 ∨ n = 2 ∨ n = 3 ∨ n = 4 := by omega
    rcases h' with rfl | rfl | rfl | rfl
    · obtain ⟨r, h1, h2, h3⟩ := chk_some t1; exact ⟨1000, r, true, h1, h2, h3⟩
    · obtain ⟨r, h1, h2, h3⟩ := chk_some t2; exact ⟨1000, r, true, h1, h2, h3⟩
    · obtain ⟨r, h1, h2, h3⟩ := chk_some t3; exact ⟨1000, r, true, h1, h2, h3⟩
    · obtain ⟨r, h1, h2, h3⟩ := chk_some t4; exact ⟨1000, r, true, h1, h2, h3⟩
end Go.Proofs.Ytnnkjjacpbbigaa.Pure
