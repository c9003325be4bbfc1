/- Proved here: what the verifier comes to on a module. No conditions. -/
import Derived.Test.YtjinilhfljefcaaGreatBrE
set_option linter.unusedVariables false
namespace Go.Proofs.YtjinilhfljefcaaGreat.Br
open Go Go.Am Go.Proofs
set_option maxHeartbeats 0
theorem runBV1 : chkE Tryz.prog (fun _ _ _ _ => .stuck) 1000000 entBV1 = true := by kernel_rfl
theorem okBV1 : EntOK Tryz.prog entBV1 := chkE_ok mixed memo_none runBV1
end Go.Proofs.YtjinilhfljefcaaGreat.Br
