/- A part of the proof that the law answers true, whatever its numbers are. -/
import Derived.Test.YtinfjeaocpifeaaGreatRows
import Derived.ProofKit
set_option linter.all false
/- What the row asks of the program, in parts. -/
namespace Go.Proofs.YtinfjeaocpifeaaGreat.worldNone
open Go.ChangeShapes Go.WideShapes Go.ChangeAt Go.RowKit
theorem k12 : (Rows.worldNoneRow.recurses == Tryz.pinned.checked.prog.recurses 3) = true := by kernel_rfl
theorem k13 : (Rows.worldNoneRow.named == Tryz.pinned.checked.prog.varsNamed 3) = true := by kernel_rfl
end Go.Proofs.YtinfjeaocpifeaaGreat.worldNone
