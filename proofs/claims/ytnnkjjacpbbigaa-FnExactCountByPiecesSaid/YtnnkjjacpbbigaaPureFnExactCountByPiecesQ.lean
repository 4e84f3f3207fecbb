/- The program's CountByPieces and the reference's answer alike for all numbers (the law's pure statement; no condition): out of 1 to 4 both tell that there is nothing, and within they are run by the kernel. -/
import Derived.Test.YtnnkjjacpbbigaaMFnExactCountByPieces2
set_option linter.unusedVariables false
set_option linter.unusedSimpArgs false
namespace Go.Proofs.Ytnnkjjacpbbigaa.Pure
open Go.RowKit Go.Proofs.Ytnnkjjacpbbigaa.PB Go.Proofs.YtnnkjjacpbbigaaW.PrintWords Go.Proofs.YtnnkjjacpbbigaaW.PrintLast Go.Proofs.YtnnkjjacpbbigaaW.PrintMore
def yesCountByPieces : Option Bool → Bool
  | some true => true
  | _ => false
theorem yesCountByPieces_eq {a : Option Bool} (h : yesCountByPieces a = true) : a = some true := by
  unfold yesCountByPieces at h
  split at h
  · rfl
  · cases h
set_option maxRecDepth 100000 in
theorem CountByPieces1 : yesCountByPieces (laws_FnExactCountByPieces.f 1000 1) = true := by decide +kernel
set_option maxRecDepth 100000 in
theorem CountByPieces2 : yesCountByPieces (laws_FnExactCountByPieces.f 1000 2) = true := by decide +kernel
set_option maxRecDepth 100000 in
theorem CountByPieces3 : yesCountByPieces (laws_FnExactCountByPieces.f 1000 3) = true := by decide +kernel
set_option maxRecDepth 100000 in
theorem CountByPieces4 : yesCountByPieces (laws_FnExactCountByPieces.f 1000 4) = true := by decide +kernel
theorem CountByPiecesno (n : Int) (h : n < 1 ∨ 4 < n) : spec_l1In.f n 1 4 = some false ∧ impl_in.f n 1 4 = some false := by
  unfold spec_l1In.f impl_in.f
  constructor
  · by_cases h1 : n ≥ 1
    · rw [if_pos h1, decide_eq_false (by omega)]
    · rw [if_neg h1]
  · by_cases h1 : 1 ≤ n
    · rw [if_pos h1, decide_eq_false (by omega)]
    · rw [if_neg h1]
theorem FnExactCountByPieces : laws_FnExactCountByPieces.Pure := by
  intro n _
  by_cases h : n < 1 ∨ 4 < n
  · obtain ⟨h1, h2⟩ := CountByPiecesno n h
    have e1 : spec_CountByPieces.f 10 n = some ([], false) := by
      unfold spec_CountByPieces.f
      rw [h1]
      simp
    have e2 : impl_CountByPieces.f 10 n = some ([], false) := by
      unfold impl_CountByPieces.f
      rw [h2]
      simp
    have e3 : impl_CountByPieces.f 9 n = some ([], false) := by
      unfold impl_CountByPieces.f
      rw [h2]
      simp
    refine ⟨10, ?_⟩
    unfold laws_FnExactCountByPieces.f
    rw [e1, e2]
    have e4 : laws_FnExactCountByPieces.j0 (9 + 1) n [] false [] false = some true := by
      simp only [laws_FnExactCountByPieces.j0]
      rw [show laws_markIntS.f 9 ([] : List Int) 1 = some (1, []) by decide +kernel]
      simp only [Option.bind_some]
      rw [show laws_heldIntS.f 9 ([] : List Int) 1 = some 1 by decide +kernel]
      simp only [Option.bind_some]
      rw [e3]
      simp only [Option.bind_some]
      rw [show laws_eqIntS.f 9 ([] : List Int) [] = some true by decide +kernel]
      decide +kernel
    simp only [Option.bind_some]
    rw [show laws_eqIntS.f 10 ([] : List Int) [] = some true by decide +kernel]
    simpa using e4
  · have h' : n = 1 ∨ n = 2 ∨ n = 3 ∨ n = 4 := by omega
    rcases h' with rfl | rfl | rfl | rfl
    · exact ⟨1000, yesCountByPieces_eq CountByPieces1⟩
    · exact ⟨1000, yesCountByPieces_eq CountByPieces2⟩
    · exact ⟨1000, yesCountByPieces_eq CountByPieces3⟩
    · exact ⟨1000, yesCountByPieces_eq CountByPieces4⟩
end Go.Proofs.Ytnnkjjacpbbigaa.Pure
