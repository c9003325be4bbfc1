/- Proved here: what the verifier comes to on a module. No conditions. -/
import Derived.Test.YtjinilhfljefcaaGreatBrE
set_option linter.unusedVariables false
namespace Go.Proofs.YtjinilhfljefcaaGreat.Br
open Go Go.Am Go.Proofs
set_option maxHeartbeats 0
theorem runKV1 : chkE Tryz.prog (fun _ _ _ _ => .stuck) 1000000 entKV1 = true := by kernel_rfl
theorem okKV1 : EntOK Tryz.prog entKV1 := chkE_ok mixed memo_none runKV1
end Go.Proofs.YtjinilhfljefcaaGreat.Br
