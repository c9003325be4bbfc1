/- Proved here: what a run's writes are taken up in. No conditions. -/
import Derived.Test.YtjinilhfljefcaaGreatBrE
import Derived.Test.YtjinilhfljefcaaGreatBrKM
import Derived.Test.YtjinilhfljefcaaGreatBrKD1
import Derived.Test.YtjinilhfljefcaaGreatBrKD2
import Derived.Test.YtjinilhfljefcaaGreatBrKD3
set_option linter.unusedVariables false
namespace Go.Proofs.YtjinilhfljefcaaGreat.Br
open Go Go.Am Go.Proofs
set_option maxHeartbeats 0
def entKY1 : Ent := { g := 21, args := [.agg [.vec [.int .i64 (0)] 1 false, .nilSlice, .int .i64 (0), .int .i64 (0), .nilSlice, .vec [.str [109, 97, 105, 110], .int .i64 (0), .vec [.int .i64 (2), .int .i64 (1), .int .i64 (26), .str [120], .str [], .int .i64 (1), .int .i64 (1), .str [], .int .i64 (0), .bool false, .int .i64 (0), .nilSlice, .int .i64 (0), .int .i64 (0), .str [], .int .i64 (0), .bool false, .int .i64 (0), .nilSlice, .nilSlice, .nilSlice, .int .i64 (0), .int .i64 (0), .int .i64 (0), .bool false, .int .i64 (2), .int .i64 (1), .int .i64 (33), .str [120], .str [], .int .i64 (1), .int .i64 (2), .str [], .int .i64 (0), .bool false, .int .i64 (0), .nilSlice, .int .i64 (0), .int .i64 (0), .str [], .int .i64 (0), .bool false, .int .i64 (0), .nilSlice, .nilSlice, .nilSlice, .int .i64 (1), .int .i64 (0), .int .i64 (0), .bool false, .int .i64 (2), .int .i64 (1), .int .i64 (40), .str [120], .str [], .int .i64 (1), .int .i64 (3), .str [], .int .i64 (0), .bool false, .int .i64 (0), .nilSlice, .int .i64 (0), .int .i64 (0), .str [], .int .i64 (0), .bool false, .int .i64 (0), .nilSlice, .nilSlice, .nilSlice, .int .i64 (2), .int .i64 (0), .int .i64 (0), .bool false] 3 false] 1 false, .int .i64 (0), .int .i64 (3), .vec [.str [120]] 1 false, .nilSlice, .nilSlice, .nilSlice, .nilSlice], .vec [.int .i64 (0), .int .i64 (0), .int .i64 (0)] 3 false], v := .tuple [.ptr 879 0, .int .i64 (0)], L := [(879, [.slice 5982 0 3 3 6 false, .slice 878 0 1 1 1 false, .int .i64 (3), .bool true]), (5982, [.int .i64 (0), .int .i64 (0), .int .i64 (0), .int .i64 (0), .int .i64 (0), .int .i64 (1), .int .i64 (1), .int .i64 (0), .int .i64 (1), .int .i64 (0), .int .i64 (1), .int .i64 (2), .int .i64 (2), .int .i64 (0), .int .i64 (2), .int .i64 (0), .int .i64 (2), .int .i64 (3)]), (878, [.int .i64 (0)])], nx := 5983 }
theorem runKY1 : chkE Tryz.prog (memoOf 100 [entKM1, entKD1, entKD2, entKD3, entKD4, entKD5, entKD6, entKD7, entKD8, entKD9]) 1000000 entKY1 = true := by kernel_rfl
theorem okKY1 : EntOK Tryz.prog entKY1 := chkE_ok mixed (memoOf_ok (by simp only [List.mem_cons, List.not_mem_nil, or_false, forall_eq_or_imp, forall_eq]; exact ⟨okKM1, okKD1, okKD2, okKD3, okKD4, okKD5, okKD6, okKD7, okKD8, okKD9⟩)) runKY1
end Go.Proofs.YtjinilhfljefcaaGreat.Br
