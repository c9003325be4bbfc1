/- Proved here: what a run's writes are taken up in. No conditions. -/
import Derived.Test.YtjinilhfljefcaaGreatBrE
import Derived.Test.YtjinilhfljefcaaGreatBrV
import Derived.Test.YtjinilhfljefcaaGreatBrM
import Derived.Test.YtjinilhfljefcaaGreatBrDo
set_option linter.unusedVariables false
namespace Go.Proofs.YtjinilhfljefcaaGreat.Br
open Go Go.Am Go.Proofs
set_option maxHeartbeats 0
theorem runKY1 : chkE Tryz.prog (memoOf 100 [entKD1, entKD2, entKD3, entKD4, entKD5, entKD6, entKD7, entKD8, entKD9, entKV1, entKP1, entKM1]) 1000000 entKY1 = true := by kernel_rfl
theorem okKY1 : EntOK Tryz.prog entKY1 := chkE_ok mixed (memoOf_ok (by simp only [List.mem_cons, List.not_mem_nil, or_false, forall_eq_or_imp, forall_eq]; exact ⟨okKD1, okKD2, okKD3, okKD4, okKD5, okKD6, okKD7, okKD8, okKD9, okKV1, okKP1, okKM1⟩)) runKY1
end Go.Proofs.YtjinilhfljefcaaGreat.Br
