/- A part of the proof that the law answers true, whatever its numbers are. -/
import Derived.Test.YtinfjeaocpifeaaGreatRows
import Derived.ProofKit
set_option linter.all false
/- What the row asks of the program, in parts. -/
namespace Go.Proofs.YtinfjeaocpifeaaGreat.worldNone
open Go.ChangeShapes Go.WideShapes Go.ChangeAt Go.RowKit
theorem k10 : (Rows.worldNoneRow.inPlace == Tryz.pinned.checked.prog.inPlace 3) = true := by kernel_rfl
theorem k11 : (Rows.worldNoneRow.unfollowed == Tryz.pinned.checked.prog.unfollowed 3) = true := by kernel_rfl
end Go.Proofs.YtinfjeaocpifeaaGreat.worldNone
