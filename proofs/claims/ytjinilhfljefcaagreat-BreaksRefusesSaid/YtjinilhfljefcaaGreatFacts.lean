/- Proved here: facts of the program's tables that each row asks. No conditions. -/
import Derived.Test.YtjinilhfljefcaaGreatRows
import Derived.ProofKit
set_option linter.unusedVariables false
namespace Go.Proofs.YtjinilhfljefcaaGreat.Facts
open Go Go.Proofs
set_option maxHeartbeats 0
theorem own : ownKnob Tryz.prog.godebug = none := by kernel_rfl
theorem laidOut : laidOutB Tryz.prog = true := by kernel_rfl
theorem mapsRow : mapsRowed Tryz.prog = true := by kernel_rfl
theorem heard : Tryz.prog.stopsHeard = true := by kernel_rfl
theorem enters : Tryz.prog.mayEnter = true := by kernel_rfl
end Go.Proofs.YtjinilhfljefcaaGreat.Facts
