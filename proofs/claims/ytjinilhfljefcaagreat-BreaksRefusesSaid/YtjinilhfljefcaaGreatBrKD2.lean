/- Proved here: what the machine's operations come to. No conditions. -/
import Derived.Test.YtjinilhfljefcaaGreatBrE
import Derived.Test.YtjinilhfljefcaaGreatBrKV
set_option linter.unusedVariables false
namespace Go.Proofs.YtjinilhfljefcaaGreat.Br
open Go Go.Am Go.Proofs
set_option maxHeartbeats 0
theorem runKD4 : chkE Tryz.prog (memoOf 100 [entKV1]) 1000000 entKD4 = true := by kernel_rfl
theorem okKD4 : EntOK Tryz.prog entKD4 := chkE_ok mixed (memoOf_ok (by simp only [List.mem_cons, List.not_mem_nil, or_false, forall_eq]; exact okKV1)) runKD4
theorem runKD5 : chkE Tryz.prog (memoOf 100 [entKV1]) 1000000 entKD5 = true := by kernel_rfl
theorem okKD5 : EntOK Tryz.prog entKD5 := chkE_ok mixed (memoOf_ok (by simp only [List.mem_cons, List.not_mem_nil, or_false, forall_eq]; exact okKV1)) runKD5
theorem runKD6 : chkE Tryz.prog (memoOf 100 [entKV1]) 1000000 entKD6 = true := by kernel_rfl
theorem okKD6 : EntOK Tryz.prog entKD6 := chkE_ok mixed (memoOf_ok (by simp only [List.mem_cons, List.not_mem_nil, or_false, forall_eq]; exact okKV1)) runKD6
end Go.Proofs.YtjinilhfljefcaaGreat.Br
