/- The program's CountSimple and the reference's answer alike for all numbers (the law's pure statement; no condition): out of 1 to 4 both tell that there is nothing, and within they are run by the kernel. -/
import Derived.Test.YtnnkjjacpbbigaaMFnExactCountSimple2
set_option linter.unusedVariables false
set_option linter.unusedSimpArgs false
namespace Go.Proofs.Ytnnkjjacpbbigaa.Pure
open Go.RowKit Go.Proofs.Ytnnkjjacpbbigaa.PB Go.Proofs.YtnnkjjacpbbigaaW.PrintWords Go.Proofs.YtnnkjjacpbbigaaW.PrintLast Go.Proofs.YtnnkjjacpbbigaaW.PrintMore
def yesCountSimple : Option Bool → Bool
  | some true => true
  | _ => false
theorem yesCountSimple_eq {a : Option Bool} (h : yesCountSimple a = true) : a = some true := by
  unfold yesCountSimple at h
  split at h
  · rfl
  · cases h
set_option maxRecDepth 100000 in
theorem CountSimple1 : yesCountSimple (laws_FnExactCountSimple.f 1000 1) = true := by decide +kernel
set_option maxRecDepth 100000 in
theorem CountSimple2 : yesCountSimple (laws_FnExactCountSimple.f 1000 2) = true := by decide +kernel
set_option maxRecDepth 100000 in
theorem CountSimple3 : yesCountSimple (laws_FnExactCountSimple.f 1000 3) = true := by decide +kernel
set_option maxRecDepth 100000 in
theorem CountSimple4 : yesCountSimple (laws_FnExactCountSimple.f 1000 4) = true := by decide +kernel
theorem CountSimpleno (n : Int) (h : n < 1 ∨ 4 < n) : spec_l1In.f n 1 4 = some false ∧ impl_in.f n 1 4 = some false := by
  unfold spec_l1In.f impl_in.f
  constructor
  · by_cases h1 : n ≥ 1
    · rw [if_pos h1, decide_eq_false (by omega)]
    · rw [if_neg h1]
  · by_cases h1 : 1 ≤ n
    · rw [if_pos h1, decide_eq_false (by omega)]
    · rw [if_neg h1]
theorem FnExactCountSimple : laws_FnExactCountSimple.Pure := by
  intro n _
  by_cases h : n < 1 ∨ 4 < n
  · obtain ⟨h1, h2⟩ := CountSimpleno n h
    have e1 : spec_CountSimple.f 10 n = some (0, false) := by
      unfold spec_CountSimple.f
      rw [h1]
      simp
    have e2 : impl_CountSimple.f 10 n = some (0, false) := by
      unfold impl_CountSimple.f
      rw [h2]
      simp
    refine ⟨10, ?_⟩
    unfold laws_FnExactCountSimple.f
    rw [e1, e2]
    simp
  · have h' : n = 1 ∨ n = 2 ∨ n = 3 ∨ n = 4 := by omega
    rcases h' with rfl | rfl | rfl | rfl
    · exact ⟨1000, yesCountSimple_eq CountSimple1⟩
    · exact ⟨1000, yesCountSimple_eq CountSimple2⟩
    · exact ⟨1000, yesCountSimple_eq CountSimple3⟩
    · exact ⟨1000, yesCountSimple_eq CountSimple4⟩
end Go.Proofs.Ytnnkjjacpbbigaa.Pure
