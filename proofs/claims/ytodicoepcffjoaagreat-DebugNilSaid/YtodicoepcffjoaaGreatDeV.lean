/- Proved here: what the verifier comes to on the module of this law's known program. No conditions. -/
import Derived.Test.YtodicoepcffjoaaGreatDeE
set_option linter.unusedVariables false
namespace Go.Proofs.YtodicoepcffjoaaGreat.De
open Go Go.Am Go.Proofs
set_option maxHeartbeats 0 in
theorem runV1 : chkE Tryz.prog (fun _ _ _ _ => .stuck) 1000000 entV1 = true := by kernel_rfl
theorem okV1 : EntOK Tryz.prog entV1 := chkE_ok mixed memo_none runV1
end Go.Proofs.YtodicoepcffjoaaGreat.De
