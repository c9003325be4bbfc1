/- Proved here: facts of the program's tables that the row of this law asks. No conditions. -/
import Derived.Test.YtodicoepcffjoaaGreatFacts
namespace Go.Proofs.YtodicoepcffjoaaGreat.De
open Go Go.Proofs
set_option maxHeartbeats 0
theorem fInPlace : (Rows.debugNilRow.inPlace == Tryz.prog.inPlace 4) = true := by kernel_rfl
theorem fUnfollowed : (Rows.debugNilRow.unfollowed == Tryz.prog.unfollowed 4) = true := by kernel_rfl
theorem fRecurses : (Rows.debugNilRow.recurses == Tryz.prog.recurses 4) = true := by kernel_rfl
theorem fNamed : (Rows.debugNilRow.named == Tryz.prog.varsNamed 4) = true := by kernel_rfl
theorem fLifted : (Rows.debugNilRow.lifted == Tryz.prog.liftsFinal) = true := by kernel_rfl
theorem fMake : (Tryz.prog.make == some Rows.debugNilRow.make) = true := by kernel_rfl
theorem joined : joinedFacts Tryz.prog 4 Tryz.f4 Rows.debugNilSpec Rows.debugNilRow = true := by
  unfold joinedFacts
  simp only [Bool.and_eq_true]
  repeat' apply And.intro
  all_goals first
    | with_reducible exact Facts.mapsRow
    | with_reducible exact Facts.laidOut
    | with_reducible exact Facts.heard
    | with_reducible exact Facts.enters
    | with_reducible exact fInPlace
    | with_reducible exact fUnfollowed
    | with_reducible exact fRecurses
    | with_reducible exact fNamed
    | with_reducible exact fLifted
    | with_reducible exact fMake
    | kernel_rfl
end Go.Proofs.YtodicoepcffjoaaGreat.De
