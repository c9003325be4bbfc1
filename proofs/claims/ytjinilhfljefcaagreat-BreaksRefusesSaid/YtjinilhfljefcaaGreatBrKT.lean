/- Proved here: what the parser comes to on the known text. No conditions. -/
import Derived.Test.YtjinilhfljefcaaGreatBrE
set_option linter.unusedVariables false
namespace Go.Proofs.YtjinilhfljefcaaGreat.Br
open Go Go.Am Go.Proofs
set_option maxHeartbeats 0
theorem runKT1 : chkE Tryz.prog (fun _ _ _ _ => .stuck) 1000000 entKT1 = true := by kernel_rfl
theorem okKT1 : EntOK Tryz.prog entKT1 := chkE_ok mixed memo_none runKT1
end Go.Proofs.YtjinilhfljefcaaGreat.Br
