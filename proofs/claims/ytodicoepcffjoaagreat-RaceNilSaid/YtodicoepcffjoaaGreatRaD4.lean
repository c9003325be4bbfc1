/- Proved here: what the machine's operations come to in the run of this law's known program. No conditions. -/
import Derived.Test.YtodicoepcffjoaaGreatRaV
set_option linter.unusedVariables false
namespace Go.Proofs.YtodicoepcffjoaaGreat.Ra
open Go Go.Am Go.Proofs
set_option maxHeartbeats 0 in
theorem runD7 : chkE Tryz.prog (memoOf 100 [entV1]) 1000000 entD7 = true := by kernel_rfl
theorem okD7 : EntOK Tryz.prog entD7 := chkE_ok mixed (memoOf_ok (by simp only [List.mem_cons, List.not_mem_nil, or_false, forall_eq]; exact okV1)) runD7
set_option maxHeartbeats 0 in
theorem runD8 : chkE Tryz.prog (memoOf 100 [entV1]) 1000000 entD8 = true := by kernel_rfl
theorem okD8 : EntOK Tryz.prog entD8 := chkE_ok mixed (memoOf_ok (by simp only [List.mem_cons, List.not_mem_nil, or_false, forall_eq]; exact okV1)) runD8
end Go.Proofs.YtodicoepcffjoaaGreat.Ra
