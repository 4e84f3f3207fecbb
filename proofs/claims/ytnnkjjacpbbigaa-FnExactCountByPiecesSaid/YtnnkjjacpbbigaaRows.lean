/-
  No cell of these rows narrows 'for every input' (looked for: loops, veiled, ifaces, maps, wideKeys, modest, calm, conditions, laid).
  DERIVED. THE GIVEN ROWS OF THIS SEAT. 6 by the template 'for every input the law returns true; each argument reads behind the call as it read before'; 0 by the template 'total and deterministic' (their statements: YtnnkjjacpbbigaaTotals.lean).
  GIVEN WITH THE SEED: the statements are not yours to turn. If you find one false, say at which input.
  Laid BY PROGRAM, IN A SANDBOX (cutbox-rows.mjs): the forced cells as the released guide's own fill.sh prints them over the translation 2066a6b5a9167e28… (all of the seat's roots in one cut). By AI agents, Wed Nov 11 2026. No macro, syntax, notation, axiom, sorry.
-/
import Derived.Test.YtnnkjjacpbbigaaChecked
import GoSem.Claim
import GoSem.ClaimJoined
import GoSem.ClaimMapViews
import Derived.JoinedTies
import Derived.KernelRfl
namespace Go.Proofs.Ytnnkjjacpbbigaa
/- THE CELL 'sum', in the pinned program and in every row, IS THE sha256 OF THE DUMP (.gsa) THAT YtnnkjjacpbbigaaProg.lean LOADS. Nothing in Lean hashes anything: it is a label: what it is worth is what the hold of that sum in a sandbox is worth. -/
noncomputable def Try.pinned : Pinned := { name := "ytnnkjjacpbbigaa", sum := "2066a6b5a9167e28443bce48c80cf5770d4b0b915f7a2958295d40afb7a20a46", checked := Try.checked }
namespace Rows
def none {H : Type} : Left H := { results := [], args := [] }

/-- 'laws.FnExactAllWhole': WHATEVER THE INPUT: true; the input reads as it did. -/
def fnExactAllWholeSpec : ChangeSpec := { name := "fnExactAllWhole", fn := fun _ => fun
  | [d] => { results := [.lit (.bool true)], args := [d] }
  | _ => none }
def fnExactAllWholeRow : OpenClaim := { program := "ytnnkjjacpbbigaa", sum := "2066a6b5a9167e28443bce48c80cf5770d4b0b915f7a2958295d40afb7a20a46", func := "loop.example/g01126/laws.FnExactAllWhole", spec := "fnExactAllWhole", unfollowed := true, recurses := true, apart := false }
def FnExactAllWholeSaid : Prop := fnExactAllWholeRow.holds Try.pinned (OpenSpec.ofChange fnExactAllWholeSpec)

/-- ITS FALSE NEIGHBOUR: 'it returns false'. Refute it at one input. -/
def fnExactAllWholeWrong : ChangeSpec := { name := "fnExactAllWhole", fn := fun _ => fun
  | [d] => { results := [.lit (.bool false)], args := [d] }
  | _ => none }
def FnExactAllWholeWrongFalsely : Prop := fnExactAllWholeRow.holds Try.pinned (OpenSpec.ofChange fnExactAllWholeWrong)

/-- 'laws.FnExactCountSimple': WHATEVER THE INPUT: true; the input reads as it did. -/
def fnExactCountSimpleSpec : ChangeSpec := { name := "fnExactCountSimple", fn := fun _ => fun
  | [d] => { results := [.lit (.bool true)], args := [d] }
  | _ => none }
def fnExactCountSimpleRow : OpenClaim := { program := "ytnnkjjacpbbigaa", sum := "2066a6b5a9167e28443bce48c80cf5770d4b0b915f7a2958295d40afb7a20a46", func := "loop.example/g01126/laws.FnExactCountSimple", spec := "fnExactCountSimple", unfollowed := true, recurses := true, apart := false }
def FnExactCountSimpleSaid : Prop := fnExactCountSimpleRow.holds Try.pinned (OpenSpec.ofChange fnExactCountSimpleSpec)

/-- ITS FALSE NEIGHBOUR: 'it returns false'. Refute it at one input. -/
def fnExactCountSimpleWrong : ChangeSpec := { name := "fnExactCountSimple", fn := fun _ => fun
  | [d] => { results := [.lit (.bool false)], args := [d] }
  | _ => none }
def FnExactCountSimpleWrongFalsely : Prop := fnExactCountSimpleRow.holds Try.pinned (OpenSpec.ofChange fnExactCountSimpleWrong)

/-- 'laws.FnExactCountByPieces': WHATEVER THE INPUT: true; the input reads as it did. -/
def fnExactCountByPiecesSpec : ChangeSpec := { name := "fnExactCountByPieces", fn := fun _ => fun
  | [d] => { results := [.lit (.bool true)], args := [d] }
  | _ => none }
def fnExactCountByPiecesRow : OpenClaim := { program := "ytnnkjjacpbbigaa", sum := "2066a6b5a9167e28443bce48c80cf5770d4b0b915f7a2958295d40afb7a20a46", func := "loop.example/g01126/laws.FnExactCountByPieces", spec := "fnExactCountByPieces", unfollowed := true, recurses := true, apart := false }
def FnExactCountByPiecesSaid : Prop := fnExactCountByPiecesRow.holds Try.pinned (OpenSpec.ofChange fnExactCountByPiecesSpec)

/-- ITS FALSE NEIGHBOUR: 'it returns false'. Refute it at one input. -/
def fnExactCountByPiecesWrong : ChangeSpec := { name := "fnExactCountByPieces", fn := fun _ => fun
  | [d] => { results := [.lit (.bool false)], args := [d] }
  | _ => none }
def FnExactCountByPiecesWrongFalsely : Prop := fnExactCountByPiecesRow.holds Try.pinned (OpenSpec.ofChange fnExactCountByPiecesWrong)

/-- 'laws.FnExactPieceTexts': WHATEVER THE INPUT: true; the input reads as it did. -/
def fnExactPieceTextsSpec : ChangeSpec := { name := "fnExactPieceTexts", fn := fun _ => fun
  | [d] => { results := [.lit (.bool true)], args := [d] }
  | _ => none }
def fnExactPieceTextsRow : OpenClaim := { program := "ytnnkjjacpbbigaa", sum := "2066a6b5a9167e28443bce48c80cf5770d4b0b915f7a2958295d40afb7a20a46", func := "loop.example/g01126/laws.FnExactPieceTexts", spec := "fnExactPieceTexts", unfollowed := true, recurses := true, apart := false }
def FnExactPieceTextsSaid : Prop := fnExactPieceTextsRow.holds Try.pinned (OpenSpec.ofChange fnExactPieceTextsSpec)

/-- ITS FALSE NEIGHBOUR: 'it returns false'. Refute it at one input. -/
def fnExactPieceTextsWrong : ChangeSpec := { name := "fnExactPieceTexts", fn := fun _ => fun
  | [d] => { results := [.lit (.bool false)], args := [d] }
  | _ => none }
def FnExactPieceTextsWrongFalsely : Prop := fnExactPieceTextsRow.holds Try.pinned (OpenSpec.ofChange fnExactPieceTextsWrong)

/-- 'laws.FnWholeCounted': WHATEVER THE INPUT: true; the input reads as it did. -/
def fnWholeCountedSpec : ChangeSpec := { name := "fnWholeCounted", fn := fun _ => fun
  | [d1, d2] => { results := [.lit (.bool true)], args := [d1, d2] }
  | _ => none }
def fnWholeCountedRow : OpenClaim := { program := "ytnnkjjacpbbigaa", sum := "2066a6b5a9167e28443bce48c80cf5770d4b0b915f7a2958295d40afb7a20a46", func := "loop.example/g01126/laws.FnWholeCounted", spec := "fnWholeCounted", unfollowed := true, recurses := true, apart := false }
def FnWholeCountedSaid : Prop := fnWholeCountedRow.holds Try.pinned (OpenSpec.ofChange fnWholeCountedSpec)

/-- ITS FALSE NEIGHBOUR: 'it returns false'. Refute it at one input. -/
def fnWholeCountedWrong : ChangeSpec := { name := "fnWholeCounted", fn := fun _ => fun
  | [d1, d2] => { results := [.lit (.bool false)], args := [d1, d2] }
  | _ => none }
def FnWholeCountedWrongFalsely : Prop := fnWholeCountedRow.holds Try.pinned (OpenSpec.ofChange fnWholeCountedWrong)

/-- 'laws.FnPiecesAreTheSame': WHATEVER THE INPUT: true; the input reads as it did. -/
def fnPiecesAreTheSameSpec : ChangeSpec := { name := "fnPiecesAreTheSame", fn := fun _ => fun
  | [d1, d2] => { results := [.lit (.bool true)], args := [d1, d2] }
  | _ => none }
def fnPiecesAreTheSameRow : OpenClaim := { program := "ytnnkjjacpbbigaa", sum := "2066a6b5a9167e28443bce48c80cf5770d4b0b915f7a2958295d40afb7a20a46", func := "loop.example/g01126/laws.FnPiecesAreTheSame", spec := "fnPiecesAreTheSame", unfollowed := true, recurses := true, apart := false }
def FnPiecesAreTheSameSaid : Prop := fnPiecesAreTheSameRow.holds Try.pinned (OpenSpec.ofChange fnPiecesAreTheSameSpec)

/-- ITS FALSE NEIGHBOUR: 'it returns false'. Refute it at one input. -/
def fnPiecesAreTheSameWrong : ChangeSpec := { name := "fnPiecesAreTheSame", fn := fun _ => fun
  | [d1, d2] => { results := [.lit (.bool false)], args := [d1, d2] }
  | _ => none }
def FnPiecesAreTheSameWrongFalsely : Prop := fnPiecesAreTheSameRow.holds Try.pinned (OpenSpec.ofChange fnPiecesAreTheSameWrong)

/- THE SECOND FORM. 'bulk': how many values and letters a reading holds, each counted each time it is reached (what is shared counts as often as it is met; a slice's spare places count too). A statement '..UptoSaid' is the law's where the arguments, and the package variables that the reading takes, are together of bulk at most 1048576: NARROWER than '..Said'. Prove '..Said' where nothing that the law and all that it calls make is longer than what came in: it says more and counts as full. Else prove '..UptoSaid'. A law counts once. -/
mutual
def uptoBulk {H : Type} : DataW H → Nat
  | .lit (.string bytes) => bytes.length + 1
  | .lit _ => 1
  | .nil => 1
  | .ptr d => uptoBulk d + 1
  | .slice elems spare => uptoBulkAll elems + uptoBulkAll spare + 1
  | .agg parts => uptoBulkAll parts + 1
  | .iface _ d => uptoBulk d + 1
  | .map entries => uptoBulkEntries entries + 1
  | .held _ => 1
def uptoBulkAll {H : Type} : List (DataW H) → Nat
  | [] => 0
  | d :: r => uptoBulk d + uptoBulkAll r
def uptoBulkEntries {H : Type} : List (Lit × DataW H) → Nat
  | [] => 0
  | x :: r => uptoBulkEntry x + uptoBulkEntries r
def uptoBulkEntry {H : Type} : Lit × DataW H → Nat
  | (.string bytes, d) => bytes.length + uptoBulk d + 1
  | (_, d) => uptoBulk d + 1
 end
def uptoSmall : (H : Type) → List (DataW H) → Bool := fun _ ds => decide (uptoBulkAll ds ≤ 1048576)
def OpenSpec.upto (s : _root_.Go.ChangeSpec) : _root_.Go.OpenSpec := { _root_.Go.OpenSpec.ofChange s with cond := some uptoSmall }

/-- 'laws.FnExactAllWhole', WHERE WHAT IT READS IS OF BULK AT MOST 1048576: true; the input reads as it did. -/
def fnExactAllWholeUptoRow : OpenClaim := { program := "ytnnkjjacpbbigaa", sum := "2066a6b5a9167e28443bce48c80cf5770d4b0b915f7a2958295d40afb7a20a46", func := "loop.example/g01126/laws.FnExactAllWhole", spec := "fnExactAllWhole", unfollowed := true, recurses := true, apart := false, narrowed := true }
def FnExactAllWholeUptoSaid : Prop := fnExactAllWholeUptoRow.holds Try.pinned (OpenSpec.upto fnExactAllWholeSpec)

/-- 'laws.FnExactCountSimple', WHERE WHAT IT READS IS OF BULK AT MOST 1048576: true; the input reads as it did. -/
def fnExactCountSimpleUptoRow : OpenClaim := { program := "ytnnkjjacpbbigaa", sum := "2066a6b5a9167e28443bce48c80cf5770d4b0b915f7a2958295d40afb7a20a46", func := "loop.example/g01126/laws.FnExactCountSimple", spec := "fnExactCountSimple", unfollowed := true, recurses := true, apart := false, narrowed := true }
def FnExactCountSimpleUptoSaid : Prop := fnExactCountSimpleUptoRow.holds Try.pinned (OpenSpec.upto fnExactCountSimpleSpec)

/-- 'laws.FnExactCountByPieces', WHERE WHAT IT READS IS OF BULK AT MOST 1048576: true; the input reads as it did. -/
def fnExactCountByPiecesUptoRow : OpenClaim := { program := "ytnnkjjacpbbigaa", sum := "2066a6b5a9167e28443bce48c80cf5770d4b0b915f7a2958295d40afb7a20a46", func := "loop.example/g01126/laws.FnExactCountByPieces", spec := "fnExactCountByPieces", unfollowed := true, recurses := true, apart := false, narrowed := true }
def FnExactCountByPiecesUptoSaid : Prop := fnExactCountByPiecesUptoRow.holds Try.pinned (OpenSpec.upto fnExactCountByPiecesSpec)

/-- 'laws.FnExactPieceTexts', WHERE WHAT IT READS IS OF BULK AT MOST 1048576: true; the input reads as it did. -/
def fnExactPieceTextsUptoRow : OpenClaim := { program := "ytnnkjjacpbbigaa", sum := "2066a6b5a9167e28443bce48c80cf5770d4b0b915f7a2958295d40afb7a20a46", func := "loop.example/g01126/laws.FnExactPieceTexts", spec := "fnExactPieceTexts", unfollowed := true, recurses := true, apart := false, narrowed := true }
def FnExactPieceTextsUptoSaid : Prop := fnExactPieceTextsUptoRow.holds Try.pinned (OpenSpec.upto fnExactPieceTextsSpec)

/-- 'laws.FnWholeCounted', WHERE WHAT IT READS IS OF BULK AT MOST 1048576: true; the input reads as it did. -/
def fnWholeCountedUptoRow : OpenClaim := { program := "ytnnkjjacpbbigaa", sum := "2066a6b5a9167e28443bce48c80cf5770d4b0b915f7a2958295d40afb7a20a46", func := "loop.example/g01126/laws.FnWholeCounted", spec := "fnWholeCounted", unfollowed := true, recurses := true, apart := false, narrowed := true }
def FnWholeCountedUptoSaid : Prop := fnWholeCountedUptoRow.holds Try.pinned (OpenSpec.upto fnWholeCountedSpec)

/-- 'laws.FnPiecesAreTheSame', WHERE WHAT IT READS IS OF BULK AT MOST 1048576: true; the input reads as it did. -/
def fnPiecesAreTheSameUptoRow : OpenClaim := { program := "ytnnkjjacpbbigaa", sum := "2066a6b5a9167e28443bce48c80cf5770d4b0b915f7a2958295d40afb7a20a46", func := "loop.example/g01126/laws.FnPiecesAreTheSame", spec := "fnPiecesAreTheSame", unfollowed := true, recurses := true, apart := false, narrowed := true }
def FnPiecesAreTheSameUptoSaid : Prop := fnPiecesAreTheSameUptoRow.holds Try.pinned (OpenSpec.upto fnPiecesAreTheSameSpec)

end Rows
end Go.Proofs.Ytnnkjjacpbbigaa
