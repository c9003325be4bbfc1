/- Proved here: the known program of this law does what the law says. No conditions. -/
import Derived.Test.YtodicoepcffjoaaGreatDeT
import Derived.Test.YtodicoepcffjoaaGreatDeV
import Derived.Test.YtodicoepcffjoaaGreatDeD1
import Derived.Test.YtodicoepcffjoaaGreatDeD2
import Derived.Test.YtodicoepcffjoaaGreatDeD3
set_option linter.unusedVariables false
namespace Go.Proofs.YtodicoepcffjoaaGreat.De
open Go Go.Am Go.Proofs
set_option maxHeartbeats 0 in
theorem runK : chkE Tryz.prog (memoOf 100 [entT1, entV1, entD1, entD2, entD3, entD4, entD5, entD6]) 1000000 entK = true := by kernel_rfl
theorem okK : EntOK Tryz.prog entK := chkE_ok mixed (memoOf_ok (by simp only [List.mem_cons, List.not_mem_nil, or_false, forall_eq_or_imp, forall_eq]; exact ⟨okT1, okV1, okD1, okD2, okD3, okD4, okD5, okD6⟩)) runK
end Go.Proofs.YtodicoepcffjoaaGreat.De
