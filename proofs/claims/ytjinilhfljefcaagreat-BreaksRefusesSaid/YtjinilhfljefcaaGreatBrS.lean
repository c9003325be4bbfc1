/- Proved here: a part of what BreaksRefuses comes to. No conditions. -/
import Derived.Test.YtjinilhfljefcaaGreatBrE
set_option linter.unusedVariables false
set_option maxRecDepth 100000
namespace Go.Proofs.YtjinilhfljefcaaGreat.Br
open Go Go.Am Go.Proofs
noncomputable abbrev MK : Memo := memoOf 100 [entK]
noncomputable abbrev KN : Knot := knot Tryz.prog MK 1000000
/-- The parts of the law's body. -/
def headL : Code → Code | .seq a _ => a | c => c
def tailL : Code → Code | .seq _ b => b | c => c
noncomputable def body : Code := match Tryz.f3.body with | some c => c | none => .skip
noncomputable def c0 : Code := headL body
noncomputable def c1 : Code := headL (tailL body)
noncomputable def r2 : Code := tailL (tailL body)
noncomputable def c2 : Code := headL r2
noncomputable def c3 : Code := headL (tailL r2)
noncomputable def c4 : Code := headL (tailL (tailL r2))
noncomputable def c5 : Code := headL (tailL (tailL (tailL r2)))
noncomputable def r6 : Code := tailL (tailL (tailL (tailL r2)))
noncomputable def c6 : Code := headL r6
noncomputable def r7 : Code := tailL r6
theorem body_is : Tryz.f3.body = some body := by kernel_rfl
theorem body_seqs : body = seqs r2 [c0, c1] := by kernel_rfl
theorem r2_seqs : r2 = seqs r6 [c2, c3, c4, c5] := by kernel_rfl
theorem r6_seq : r6 = .seq c6 r7 := by kernel_rfl
theorem nt : Tryz.f3.ntmps = 219 := by kernel_rfl

def xs : List AV := [.int .i64 (-1), .int .i64 (-1), .int .i64 0, .int .i64 0, .int .i64 0, .int .i64 0]
section
variable (a m n : Int)
noncomputable def sA : ES := ⟨219, mkT [.int .i64 a, .int .i64 m, .int .i64 n], [], .leaf, 0⟩
def psA : List (Nat × AV) := [(0, .int .i64 a), (1, .int .i64 m), (2, .int .i64 n), (6, .ptr 0 0)]
def LA : List (Nat × List AV) := [(0, [.bool false])]
end
end Go.Proofs.YtjinilhfljefcaaGreat.Br
