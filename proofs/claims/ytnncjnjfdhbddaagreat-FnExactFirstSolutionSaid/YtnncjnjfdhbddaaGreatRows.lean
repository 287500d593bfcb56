/-
  No cell of these rows narrows 'for every input' (looked for: loops, veiled, ifaces, maps, wideKeys, modest, calm, conditions, laid).
  DERIVED. THE GIVEN ROWS OF THIS SEAT. 7 by the template 'for every input the law returns true; each argument reads behind the call as it read before'; 0 by the template 'total and deterministic' (their statements: YtnncjnjfdhbddaaGreatTotals.lean).
  GIVEN WITH THE SEED: the statements are not yours to turn. If you find one false, say at which input.
  Laid BY PROGRAM, IN A SANDBOX (cutbox-rows.mjs): the forced cells as the released guide's own fill.sh prints them over the translation 05db3b72b2bd1ad8… (all of the seat's roots in one cut). By AI agents, Wed Nov 11 2026. No macro, syntax, notation, axiom, sorry.
-/
import Derived.Test.YtnncjnjfdhbddaaGreatChecked
import GoSem.Claim
import GoSem.ClaimJoined
import GoSem.ClaimMapViews
import Derived.JoinedTies
import Derived.KernelRfl
namespace Go.Proofs.YtnncjnjfdhbddaaGreat
/- THE CELL 'sum', in the pinned program and in every row, IS THE sha256 OF THE DUMP (.gsa) THAT YtnncjnjfdhbddaaGreatProg.lean LOADS. Nothing in Lean hashes anything: it is a label: what it is worth is what the hold of that sum in a sandbox is worth. -/
noncomputable def Tryz.pinned : Pinned := { name := "ytnncjnjfdhbddaagreat", sum := "05db3b72b2bd1ad8d86a5884f1da7384002d754cea9ea92ae9b68c71b0e702ee", checked := Tryz.checked }
namespace Rows
def none {H : Type} : Left H := { results := [], args := [] }

/-- 'laws.FnExactChambersNeeded': WHATEVER THE INPUT: true; the input reads as it did. -/
def fnExactChambersNeededSpec : ChangeSpec := { name := "fnExactChambersNeeded", fn := fun _ => fun
  | [d] => { results := [.lit (.bool true)], args := [d] }
  | _ => none }
def fnExactChambersNeededRow : OpenClaim := { program := "ytnncjnjfdhbddaagreat", sum := "05db3b72b2bd1ad8d86a5884f1da7384002d754cea9ea92ae9b68c71b0e702ee", func := "loop.example/g01275/laws.FnExactChambersNeeded", spec := "fnExactChambersNeeded", unfollowed := true, recurses := true, apart := false }
def FnExactChambersNeededSaid : Prop := fnExactChambersNeededRow.holds Tryz.pinned (OpenSpec.ofChange fnExactChambersNeededSpec)

/-- ITS FALSE NEIGHBOUR: 'it returns false'. Refute it at one input. -/
def fnExactChambersNeededWrong : ChangeSpec := { name := "fnExactChambersNeeded", fn := fun _ => fun
  | [d] => { results := [.lit (.bool false)], args := [d] }
  | _ => none }
def FnExactChambersNeededWrongFalsely : Prop := fnExactChambersNeededRow.holds Tryz.pinned (OpenSpec.ofChange fnExactChambersNeededWrong)

/-- 'laws.FnExactNeedlessClues': WHATEVER THE INPUT: true; the input reads as it did. -/
def fnExactNeedlessCluesSpec : ChangeSpec := { name := "fnExactNeedlessClues", fn := fun _ => fun
  | [d] => { results := [.lit (.bool true)], args := [d] }
  | _ => none }
def fnExactNeedlessCluesRow : OpenClaim := { program := "ytnncjnjfdhbddaagreat", sum := "05db3b72b2bd1ad8d86a5884f1da7384002d754cea9ea92ae9b68c71b0e702ee", func := "loop.example/g01275/laws.FnExactNeedlessClues", spec := "fnExactNeedlessClues", unfollowed := true, recurses := true, apart := false }
def FnExactNeedlessCluesSaid : Prop := fnExactNeedlessCluesRow.holds Tryz.pinned (OpenSpec.ofChange fnExactNeedlessCluesSpec)

/-- ITS FALSE NEIGHBOUR: 'it returns false'. Refute it at one input. -/
def fnExactNeedlessCluesWrong : ChangeSpec := { name := "fnExactNeedlessClues", fn := fun _ => fun
  | [d] => { results := [.lit (.bool false)], args := [d] }
  | _ => none }
def FnExactNeedlessCluesWrongFalsely : Prop := fnExactNeedlessCluesRow.holds Tryz.pinned (OpenSpec.ofChange fnExactNeedlessCluesWrong)

/-- 'laws.FnExactHarderPuzzle': WHATEVER THE INPUT: true; the input reads as it did. -/
def fnExactHarderPuzzleSpec : ChangeSpec := { name := "fnExactHarderPuzzle", fn := fun _ => fun
  | [d] => { results := [.lit (.bool true)], args := [d] }
  | _ => none }
def fnExactHarderPuzzleRow : OpenClaim := { program := "ytnncjnjfdhbddaagreat", sum := "05db3b72b2bd1ad8d86a5884f1da7384002d754cea9ea92ae9b68c71b0e702ee", func := "loop.example/g01275/laws.FnExactHarderPuzzle", spec := "fnExactHarderPuzzle", unfollowed := true, recurses := true, apart := false }
def FnExactHarderPuzzleSaid : Prop := fnExactHarderPuzzleRow.holds Tryz.pinned (OpenSpec.ofChange fnExactHarderPuzzleSpec)

/-- ITS FALSE NEIGHBOUR: 'it returns false'. Refute it at one input. -/
def fnExactHarderPuzzleWrong : ChangeSpec := { name := "fnExactHarderPuzzle", fn := fun _ => fun
  | [d] => { results := [.lit (.bool false)], args := [d] }
  | _ => none }
def FnExactHarderPuzzleWrongFalsely : Prop := fnExactHarderPuzzleRow.holds Tryz.pinned (OpenSpec.ofChange fnExactHarderPuzzleWrong)

/-- 'laws.FnExactFirstSolution': WHATEVER THE INPUT: true; the input reads as it did. -/
def fnExactFirstSolutionSpec : ChangeSpec := { name := "fnExactFirstSolution", fn := fun _ => fun
  | [d] => { results := [.lit (.bool true)], args := [d] }
  | _ => none }
def fnExactFirstSolutionRow : OpenClaim := { program := "ytnncjnjfdhbddaagreat", sum := "05db3b72b2bd1ad8d86a5884f1da7384002d754cea9ea92ae9b68c71b0e702ee", func := "loop.example/g01275/laws.FnExactFirstSolution", spec := "fnExactFirstSolution", unfollowed := true, recurses := true, apart := false }
def FnExactFirstSolutionSaid : Prop := fnExactFirstSolutionRow.holds Tryz.pinned (OpenSpec.ofChange fnExactFirstSolutionSpec)

/-- ITS FALSE NEIGHBOUR: 'it returns false'. Refute it at one input. -/
def fnExactFirstSolutionWrong : ChangeSpec := { name := "fnExactFirstSolution", fn := fun _ => fun
  | [d] => { results := [.lit (.bool false)], args := [d] }
  | _ => none }
def FnExactFirstSolutionWrongFalsely : Prop := fnExactFirstSolutionRow.holds Tryz.pinned (OpenSpec.ofChange fnExactFirstSolutionWrong)

/-- 'laws.FnExactSolutions': WHATEVER THE INPUT: true; the input reads as it did. -/
def fnExactSolutionsSpec : ChangeSpec := { name := "fnExactSolutions", fn := fun _ => fun
  | [d] => { results := [.lit (.bool true)], args := [d] }
  | _ => none }
def fnExactSolutionsRow : OpenClaim := { program := "ytnncjnjfdhbddaagreat", sum := "05db3b72b2bd1ad8d86a5884f1da7384002d754cea9ea92ae9b68c71b0e702ee", func := "loop.example/g01275/laws.FnExactSolutions", spec := "fnExactSolutions", unfollowed := true, recurses := true, apart := false }
def FnExactSolutionsSaid : Prop := fnExactSolutionsRow.holds Tryz.pinned (OpenSpec.ofChange fnExactSolutionsSpec)

/-- ITS FALSE NEIGHBOUR: 'it returns false'. Refute it at one input. -/
def fnExactSolutionsWrong : ChangeSpec := { name := "fnExactSolutions", fn := fun _ => fun
  | [d] => { results := [.lit (.bool false)], args := [d] }
  | _ => none }
def FnExactSolutionsWrongFalsely : Prop := fnExactSolutionsRow.holds Tryz.pinned (OpenSpec.ofChange fnExactSolutionsWrong)

/-- 'laws.FnExactSureLosses': WHATEVER THE INPUT: true; the input reads as it did. -/
def fnExactSureLossesSpec : ChangeSpec := { name := "fnExactSureLosses", fn := fun _ => fun
  | [d] => { results := [.lit (.bool true)], args := [d] }
  | _ => none }
def fnExactSureLossesRow : OpenClaim := { program := "ytnncjnjfdhbddaagreat", sum := "05db3b72b2bd1ad8d86a5884f1da7384002d754cea9ea92ae9b68c71b0e702ee", func := "loop.example/g01275/laws.FnExactSureLosses", spec := "fnExactSureLosses", unfollowed := true, recurses := true, apart := false }
def FnExactSureLossesSaid : Prop := fnExactSureLossesRow.holds Tryz.pinned (OpenSpec.ofChange fnExactSureLossesSpec)

/-- ITS FALSE NEIGHBOUR: 'it returns false'. Refute it at one input. -/
def fnExactSureLossesWrong : ChangeSpec := { name := "fnExactSureLosses", fn := fun _ => fun
  | [d] => { results := [.lit (.bool false)], args := [d] }
  | _ => none }
def FnExactSureLossesWrongFalsely : Prop := fnExactSureLossesRow.holds Tryz.pinned (OpenSpec.ofChange fnExactSureLossesWrong)

/-- 'laws.FnExactSureWins': WHATEVER THE INPUT: true; the input reads as it did. -/
def fnExactSureWinsSpec : ChangeSpec := { name := "fnExactSureWins", fn := fun _ => fun
  | [d] => { results := [.lit (.bool true)], args := [d] }
  | _ => none }
def fnExactSureWinsRow : OpenClaim := { program := "ytnncjnjfdhbddaagreat", sum := "05db3b72b2bd1ad8d86a5884f1da7384002d754cea9ea92ae9b68c71b0e702ee", func := "loop.example/g01275/laws.FnExactSureWins", spec := "fnExactSureWins", unfollowed := true, recurses := true, apart := false }
def FnExactSureWinsSaid : Prop := fnExactSureWinsRow.holds Tryz.pinned (OpenSpec.ofChange fnExactSureWinsSpec)

/-- ITS FALSE NEIGHBOUR: 'it returns false'. Refute it at one input. -/
def fnExactSureWinsWrong : ChangeSpec := { name := "fnExactSureWins", fn := fun _ => fun
  | [d] => { results := [.lit (.bool false)], args := [d] }
  | _ => none }
def FnExactSureWinsWrongFalsely : Prop := fnExactSureWinsRow.holds Tryz.pinned (OpenSpec.ofChange fnExactSureWinsWrong)

/- THE SECOND FORM. 'bulk': how many values and letters a reading holds, each counted each time it is reached (what is shared counts as often as it is met; a slice's spare places count too). A statement '..UptoSaid' is the law's where the arguments, and the package variables that the reading takes, are together of bulk at most 1048576: NARROWER than '..Said'. Prove '..Said' where nothing that the law and all that it calls make is longer than what came in: it says more and counts as full. Else prove '..UptoSaid'. A law counts once. -/
mutual
def uptoBulk {H : Type} : DataW H → Nat
  | .lit (.string bytes) => bytes.length + 1
  | .lit _ => 1
  | .nil => 1
  | .ptr d => uptoBulk d + 1
  | .slice elems spare => uptoBulkAll elems + uptoBulkAll spare + 1
  | .agg parts => uptoBulkAll parts + 1
  | .iface _ d => uptoBulk d + 1
  | .map entries => uptoBulkEntries entries + 1
  | .held _ => 1
def uptoBulkAll {H : Type} : List (DataW H) → Nat
  | [] => 0
  | d :: r => uptoBulk d + uptoBulkAll r
def uptoBulkEntries {H : Type} : List (Lit × DataW H) → Nat
  | [] => 0
  | x :: r => uptoBulkEntry x + uptoBulkEntries r
def uptoBulkEntry {H : Type} : Lit × DataW H → Nat
  | (.string bytes, d) => bytes.length + uptoBulk d + 1
  | (_, d) => uptoBulk d + 1
 end
def uptoSmall : (H : Type) → List (DataW H) → Bool := fun _ ds => decide (uptoBulkAll ds ≤ 1048576)
def OpenSpec.upto (s : _root_.Go.ChangeSpec) : _root_.Go.OpenSpec := { _root_.Go.OpenSpec.ofChange s with cond := some uptoSmall }

/-- 'laws.FnExactChambersNeeded', WHERE WHAT IT READS IS OF BULK AT MOST 1048576: true; the input reads as it did. -/
def fnExactChambersNeededUptoRow : OpenClaim := { program := "ytnncjnjfdhbddaagreat", sum := "05db3b72b2bd1ad8d86a5884f1da7384002d754cea9ea92ae9b68c71b0e702ee", func := "loop.example/g01275/laws.FnExactChambersNeeded", spec := "fnExactChambersNeeded", unfollowed := true, recurses := true, apart := false, narrowed := true }
def FnExactChambersNeededUptoSaid : Prop := fnExactChambersNeededUptoRow.holds Tryz.pinned (OpenSpec.upto fnExactChambersNeededSpec)

/-- 'laws.FnExactNeedlessClues', WHERE WHAT IT READS IS OF BULK AT MOST 1048576: true; the input reads as it did. -/
def fnExactNeedlessCluesUptoRow : OpenClaim := { program := "ytnncjnjfdhbddaagreat", sum := "05db3b72b2bd1ad8d86a5884f1da7384002d754cea9ea92ae9b68c71b0e702ee", func := "loop.example/g01275/laws.FnExactNeedlessClues", spec := "fnExactNeedlessClues", unfollowed := true, recurses := true, apart := false, narrowed := true }
def FnExactNeedlessCluesUptoSaid : Prop := fnExactNeedlessCluesUptoRow.holds Tryz.pinned (OpenSpec.upto fnExactNeedlessCluesSpec)

/-- 'laws.FnExactHarderPuzzle', WHERE WHAT IT READS IS OF BULK AT MOST 1048576: true; the input reads as it did. -/
def fnExactHarderPuzzleUptoRow : OpenClaim := { program := "ytnncjnjfdhbddaagreat", sum := "05db3b72b2bd1ad8d86a5884f1da7384002d754cea9ea92ae9b68c71b0e702ee", func := "loop.example/g01275/laws.FnExactHarderPuzzle", spec := "fnExactHarderPuzzle", unfollowed := true, recurses := true, apart := false, narrowed := true }
def FnExactHarderPuzzleUptoSaid : Prop := fnExactHarderPuzzleUptoRow.holds Tryz.pinned (OpenSpec.upto fnExactHarderPuzzleSpec)

/-- 'laws.FnExactFirstSolution', WHERE WHAT IT READS IS OF BULK AT MOST 1048576: true; the input reads as it did. -/
def fnExactFirstSolutionUptoRow : OpenClaim := { program := "ytnncjnjfdhbddaagreat", sum := "05db3b72b2bd1ad8d86a5884f1da7384002d754cea9ea92ae9b68c71b0e702ee", func := "loop.example/g01275/laws.FnExactFirstSolution", spec := "fnExactFirstSolution", unfollowed := true, recurses := true, apart := false, narrowed := true }
def FnExactFirstSolutionUptoSaid : Prop := fnExactFirstSolutionUptoRow.holds Tryz.pinned (OpenSpec.upto fnExactFirstSolutionSpec)

/-- 'laws.FnExactSolutions', WHERE WHAT IT READS IS OF BULK AT MOST 1048576: true; the input reads as it did. -/
def fnExactSolutionsUptoRow : OpenClaim := { program := "ytnncjnjfdhbddaagreat", sum := "05db3b72b2bd1ad8d86a5884f1da7384002d754cea9ea92ae9b68c71b0e702ee", func := "loop.example/g01275/laws.FnExactSolutions", spec := "fnExactSolutions", unfollowed := true, recurses := true, apart := false, narrowed := true }
def FnExactSolutionsUptoSaid : Prop := fnExactSolutionsUptoRow.holds Tryz.pinned (OpenSpec.upto fnExactSolutionsSpec)

/-- 'laws.FnExactSureLosses', WHERE WHAT IT READS IS OF BULK AT MOST 1048576: true; the input reads as it did. -/
def fnExactSureLossesUptoRow : OpenClaim := { program := "ytnncjnjfdhbddaagreat", sum := "05db3b72b2bd1ad8d86a5884f1da7384002d754cea9ea92ae9b68c71b0e702ee", func := "loop.example/g01275/laws.FnExactSureLosses", spec := "fnExactSureLosses", unfollowed := true, recurses := true, apart := false, narrowed := true }
def FnExactSureLossesUptoSaid : Prop := fnExactSureLossesUptoRow.holds Tryz.pinned (OpenSpec.upto fnExactSureLossesSpec)

/-- 'laws.FnExactSureWins', WHERE WHAT IT READS IS OF BULK AT MOST 1048576: true; the input reads as it did. -/
def fnExactSureWinsUptoRow : OpenClaim := { program := "ytnncjnjfdhbddaagreat", sum := "05db3b72b2bd1ad8d86a5884f1da7384002d754cea9ea92ae9b68c71b0e702ee", func := "loop.example/g01275/laws.FnExactSureWins", spec := "fnExactSureWins", unfollowed := true, recurses := true, apart := false, narrowed := true }
def FnExactSureWinsUptoSaid : Prop := fnExactSureWinsUptoRow.holds Tryz.pinned (OpenSpec.upto fnExactSureWinsSpec)

end Rows
end Go.Proofs.YtnncjnjfdhbddaaGreat
