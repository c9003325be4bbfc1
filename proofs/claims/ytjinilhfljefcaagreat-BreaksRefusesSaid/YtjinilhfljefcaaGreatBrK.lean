/- Proved here: the known program does what the law says, in whatever order a map is gone through. No conditions. -/
import Derived.Test.YtjinilhfljefcaaGreatBrV
import Derived.Test.YtjinilhfljefcaaGreatBrM
import Derived.Test.YtjinilhfljefcaaGreatBrDo
import Derived.Test.YtjinilhfljefcaaGreatBrKT
import Derived.Test.YtjinilhfljefcaaGreatBrKY
import Derived.Test.YtjinilhfljefcaaGreatBrKI
import Derived.Test.YtjinilhfljefcaaGreatBrKW1
import Derived.Test.YtjinilhfljefcaaGreatBrKW2
set_option linter.unusedVariables false
namespace Go.Proofs.YtjinilhfljefcaaGreat.Br
open Go Go.Am Go.Proofs
set_option maxHeartbeats 0
theorem runK : chkW entK (callN Tryz.prog (memoOf 100 [entKT1, entKD1, entKD2, entKD3, entKD4, entKD5, entKD6, entKD7, entKD8, entKD9, entKV1, entKP1, entKM1, entKY1, entKI1, entKI2, entKI3, entKW1, entKW2]) 1000000 entK.g entK.args .leaf 0) = true := by kernel_rfl
theorem okK : EntOK Tryz.prog entK := chkW_ok mixed (memoOf_ok (by simp only [List.mem_cons, List.not_mem_nil, or_false, forall_eq_or_imp, forall_eq]; exact ⟨okKT1, okKD1, okKD2, okKD3, okKD4, okKD5, okKD6, okKD7, okKD8, okKD9, okKV1, okKP1, okKM1, okKY1, okKI1, okKI2, okKI3, okKW1, okKW2⟩)) runK
end Go.Proofs.YtjinilhfljefcaaGreat.Br
