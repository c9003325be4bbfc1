/- Proved here: a part of what BreaksRefuses comes to. No conditions. -/
import Derived.Test.YtjinilhfljefcaaGreatBrBz
set_option linter.unusedVariables false
namespace Go.Proofs.YtjinilhfljefcaaGreat.Br
open Go Go.Am Go.Proofs
set_option maxHeartbeats 0
set_option maxRecDepth 100000
theorem b_0 (m n : Int) : told 219 (psB m n) LB 3000 (runL KB 3 [c2, c3, c4, c5] (canon 219 (psA 0 m n) LA 1)) = want (psB m n) := by kernel_rfl
end Go.Proofs.YtjinilhfljefcaaGreat.Br
