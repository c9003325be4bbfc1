/- Proved here: what the machine's operations come to. No conditions. -/
import Derived.Test.YtjinilhfljefcaaGreatBrE
import Derived.Test.YtjinilhfljefcaaGreatBrKV
set_option linter.unusedVariables false
namespace Go.Proofs.YtjinilhfljefcaaGreat.Br
open Go Go.Am Go.Proofs
set_option maxHeartbeats 0
theorem runKD7 : chkE Tryz.prog (memoOf 100 [entKV1]) 1000000 entKD7 = true := by kernel_rfl
theorem okKD7 : EntOK Tryz.prog entKD7 := chkE_ok mixed (memoOf_ok (by simp only [List.mem_cons, List.not_mem_nil, or_false, forall_eq]; exact okKV1)) runKD7
theorem runKD8 : chkE Tryz.prog (memoOf 100 [entKV1]) 1000000 entKD8 = true := by kernel_rfl
theorem okKD8 : EntOK Tryz.prog entKD8 := chkE_ok mixed (memoOf_ok (by simp only [List.mem_cons, List.not_mem_nil, or_false, forall_eq]; exact okKV1)) runKD8
theorem runKD9 : chkE Tryz.prog (memoOf 100 [entKV1]) 1000000 entKD9 = true := by kernel_rfl
theorem okKD9 : EntOK Tryz.prog entKD9 := chkE_ok mixed (memoOf_ok (by simp only [List.mem_cons, List.not_mem_nil, or_false, forall_eq]; exact okKV1)) runKD9
end Go.Proofs.YtjinilhfljefcaaGreat.Br
