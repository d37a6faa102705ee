import Derived.Test.YtammfmmmblgkkaaGreatDoorTA
set_option maxRecDepth 100000
set_option linter.unusedSectionVars false
set_option linter.unusedVariables false
set_option linter.unusedSimpArgs false
set_option linter.constructorNameAsVariable false
namespace Go.Proofs.YtammfmmmblgkkaaGreatDoor
open Go
theorem t7 (os : Os) (tape : Tape) : doorLeaves Tryz.prog 72 8 65 tl os tape = some (tl.filter fun x => x.2.handleName?.isNone, (funcsListed tl).map (·.2.funcsOut)) := by kernel_rfl
end Go.Proofs.YtammfmmmblgkkaaGreatDoor
