/- Proved here: nothing; what lies behind 'New' is written down. No conditions. -/
import Derived.Test.YtjinilhfljefcaaGreatBrC0
import Derived.Test.YtjinilhfljefcaaGreatBrV
import Derived.Test.YtjinilhfljefcaaGreatBrBT
import Derived.Test.YtjinilhfljefcaaGreatBrM
import Derived.Test.YtjinilhfljefcaaGreatBrDo
set_option linter.unusedVariables false
namespace Go.Proofs.YtjinilhfljefcaaGreat.Br
open Go Go.Am Go.Proofs
noncomputable abbrev MB : Memo := memoOf 100 [entBT1, entBD1, entBD2, entBD3, entBV1, entBP1, entBM1]
noncomputable abbrev KB : Knot := knot Tryz.prog MB 1000000
theorem kokB : KOK Tryz.prog KB := knot_sound mixed (memoOf_ok (by simp only [List.mem_cons, List.not_mem_nil, or_false, forall_eq_or_imp, forall_eq]; exact ⟨okBT1, okBD1, okBD2, okBD3, okBV1, okBP1, okBM1⟩)) 1000000
/-- Behind 'New', where there are too many picks. -/
def psX (m n : Int) : List (Nat × AV) := [(1, .int .i64 m), (2, .int .i64 n), (6, .ptr 0 0), (9, .nilPtr), (10, .int .i64 2), (11, .ptr 701 0)]
def LX : List (Nat × List AV) := [(0, [.bool false]), (701, xs)]
end Go.Proofs.YtjinilhfljefcaaGreat.Br
