/- Proved here: facts of the program's tables that the row of this law asks. No conditions. -/
import Derived.Test.YtodicoepcffjoaaGreatFacts
namespace Go.Proofs.YtodicoepcffjoaaGreat.Ra
open Go Go.Proofs
set_option maxHeartbeats 0
theorem fInPlace : (Rows.raceNilRow.inPlace == Tryz.prog.inPlace 3) = true := by kernel_rfl
theorem fUnfollowed : (Rows.raceNilRow.unfollowed == Tryz.prog.unfollowed 3) = true := by kernel_rfl
theorem fRecurses : (Rows.raceNilRow.recurses == Tryz.prog.recurses 3) = true := by kernel_rfl
theorem fNamed : (Rows.raceNilRow.named == Tryz.prog.varsNamed 3) = true := by kernel_rfl
theorem fLifted : (Rows.raceNilRow.lifted == Tryz.prog.liftsFinal) = true := by kernel_rfl
theorem fMake : (Tryz.prog.make == some Rows.raceNilRow.make) = true := by kernel_rfl
theorem joined : joinedFacts Tryz.prog 3 Tryz.f3 Rows.raceNilSpec Rows.raceNilRow = true := by
  unfold joinedFacts
  simp only [Bool.and_eq_true]
  repeat' apply And.intro
  all_goals first
    | with_reducible exact Facts.mapsRow
    | with_reducible exact Facts.laidOut
    | with_reducible exact Facts.heard
    | with_reducible exact Facts.enters
    | with_reducible exact fInPlace
    | with_reducible exact fUnfollowed
    | with_reducible exact fRecurses
    | with_reducible exact fNamed
    | with_reducible exact fLifted
    | with_reducible exact fMake
    | kernel_rfl
end Go.Proofs.YtodicoepcffjoaaGreat.Ra
