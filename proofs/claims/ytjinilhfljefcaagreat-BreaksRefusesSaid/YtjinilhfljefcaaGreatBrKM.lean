/- Proved here: what the compiler comes to on a program. No conditions. -/
import Derived.Test.YtjinilhfljefcaaGreatBrE
import Derived.Test.YtjinilhfljefcaaGreatBrKV
set_option linter.unusedVariables false
namespace Go.Proofs.YtjinilhfljefcaaGreat.Br
open Go Go.Am Go.Proofs
set_option maxHeartbeats 0
theorem runKM1 : chkE Tryz.prog (memoOf 100 [entKV1]) 1000000 entKM1 = true := by kernel_rfl
theorem okKM1 : EntOK Tryz.prog entKM1 := chkE_ok mixed (memoOf_ok (by simp only [List.mem_cons, List.not_mem_nil, or_false, forall_eq]; exact okKV1)) runKM1
end Go.Proofs.YtjinilhfljefcaaGreat.Br
