/- Proved here: what the machine's operations come to. No conditions. -/
import Derived.Test.YtjinilhfljefcaaGreatBrE
import Derived.Test.YtjinilhfljefcaaGreatBrV
set_option linter.unusedVariables false
namespace Go.Proofs.YtjinilhfljefcaaGreat.Br
open Go Go.Am Go.Proofs
set_option maxHeartbeats 0
theorem runBD1 : chkE Tryz.prog (memoOf 100 [entBV1, entBP1]) 1000000 entBD1 = true := by kernel_rfl
theorem okBD1 : EntOK Tryz.prog entBD1 := chkE_ok mixed (memoOf_ok (by simp only [List.mem_cons, List.not_mem_nil, or_false, forall_eq_or_imp, forall_eq]; exact ⟨okBV1, okBP1⟩)) runBD1
theorem runBD2 : chkE Tryz.prog (memoOf 100 [entBV1, entBP1]) 1000000 entBD2 = true := by kernel_rfl
theorem okBD2 : EntOK Tryz.prog entBD2 := chkE_ok mixed (memoOf_ok (by simp only [List.mem_cons, List.not_mem_nil, or_false, forall_eq_or_imp, forall_eq]; exact ⟨okBV1, okBP1⟩)) runBD2
theorem runBD3 : chkE Tryz.prog (memoOf 100 [entBV1, entBP1]) 1000000 entBD3 = true := by kernel_rfl
theorem okBD3 : EntOK Tryz.prog entBD3 := chkE_ok mixed (memoOf_ok (by simp only [List.mem_cons, List.not_mem_nil, or_false, forall_eq_or_imp, forall_eq]; exact ⟨okBV1, okBP1⟩)) runBD3
theorem runKD1 : chkE Tryz.prog (memoOf 100 [entKV1, entKP1]) 1000000 entKD1 = true := by kernel_rfl
theorem okKD1 : EntOK Tryz.prog entKD1 := chkE_ok mixed (memoOf_ok (by simp only [List.mem_cons, List.not_mem_nil, or_false, forall_eq_or_imp, forall_eq]; exact ⟨okKV1, okKP1⟩)) runKD1
theorem runKD2 : chkE Tryz.prog (memoOf 100 [entKV1, entKP1]) 1000000 entKD2 = true := by kernel_rfl
theorem okKD2 : EntOK Tryz.prog entKD2 := chkE_ok mixed (memoOf_ok (by simp only [List.mem_cons, List.not_mem_nil, or_false, forall_eq_or_imp, forall_eq]; exact ⟨okKV1, okKP1⟩)) runKD2
theorem runKD3 : chkE Tryz.prog (memoOf 100 [entKV1, entKP1]) 1000000 entKD3 = true := by kernel_rfl
theorem okKD3 : EntOK Tryz.prog entKD3 := chkE_ok mixed (memoOf_ok (by simp only [List.mem_cons, List.not_mem_nil, or_false, forall_eq_or_imp, forall_eq]; exact ⟨okKV1, okKP1⟩)) runKD3
theorem runKD4 : chkE Tryz.prog (memoOf 100 [entKV1, entKP1]) 1000000 entKD4 = true := by kernel_rfl
theorem okKD4 : EntOK Tryz.prog entKD4 := chkE_ok mixed (memoOf_ok (by simp only [List.mem_cons, List.not_mem_nil, or_false, forall_eq_or_imp, forall_eq]; exact ⟨okKV1, okKP1⟩)) runKD4
theorem runKD5 : chkE Tryz.prog (memoOf 100 [entKV1, entKP1]) 1000000 entKD5 = true := by kernel_rfl
theorem okKD5 : EntOK Tryz.prog entKD5 := chkE_ok mixed (memoOf_ok (by simp only [List.mem_cons, List.not_mem_nil, or_false, forall_eq_or_imp, forall_eq]; exact ⟨okKV1, okKP1⟩)) runKD5
theorem runKD6 : chkE Tryz.prog (memoOf 100 [entKV1, entKP1]) 1000000 entKD6 = true := by kernel_rfl
theorem okKD6 : EntOK Tryz.prog entKD6 := chkE_ok mixed (memoOf_ok (by simp only [List.mem_cons, List.not_mem_nil, or_false, forall_eq_or_imp, forall_eq]; exact ⟨okKV1, okKP1⟩)) runKD6
theorem runKD7 : chkE Tryz.prog (memoOf 100 [entKV1, entKP1]) 1000000 entKD7 = true := by kernel_rfl
theorem okKD7 : EntOK Tryz.prog entKD7 := chkE_ok mixed (memoOf_ok (by simp only [List.mem_cons, List.not_mem_nil, or_false, forall_eq_or_imp, forall_eq]; exact ⟨okKV1, okKP1⟩)) runKD7
theorem runKD8 : chkE Tryz.prog (memoOf 100 [entKV1, entKP1]) 1000000 entKD8 = true := by kernel_rfl
theorem okKD8 : EntOK Tryz.prog entKD8 := chkE_ok mixed (memoOf_ok (by simp only [List.mem_cons, List.not_mem_nil, or_false, forall_eq_or_imp, forall_eq]; exact ⟨okKV1, okKP1⟩)) runKD8
theorem runKD9 : chkE Tryz.prog (memoOf 100 [entKV1, entKP1]) 1000000 entKD9 = true := by kernel_rfl
theorem okKD9 : EntOK Tryz.prog entKD9 := chkE_ok mixed (memoOf_ok (by simp only [List.mem_cons, List.not_mem_nil, or_false, forall_eq_or_imp, forall_eq]; exact ⟨okKV1, okKP1⟩)) runKD9
end Go.Proofs.YtjinilhfljefcaaGreat.Br
