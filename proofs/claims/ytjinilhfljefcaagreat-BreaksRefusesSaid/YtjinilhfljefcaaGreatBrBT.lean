/- Proved here: what the parser comes to on the law's text. No conditions. -/
import Derived.Test.YtjinilhfljefcaaGreatBrE
set_option linter.unusedVariables false
namespace Go.Proofs.YtjinilhfljefcaaGreat.Br
open Go Go.Am Go.Proofs
set_option maxHeartbeats 0
theorem runBT1 : chkE Tryz.prog (fun _ _ _ _ => .stuck) 1000000 entBT1 = true := by kernel_rfl
theorem okBT1 : EntOK Tryz.prog entBT1 := chkE_ok mixed memo_none runBT1
end Go.Proofs.YtjinilhfljefcaaGreat.Br
