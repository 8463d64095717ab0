/- A part of the proof that the law answers true, whatever its numbers are. -/
import Derived.Test.YtinfjeaocpifeaaGreatRows
import Derived.ProofKit
set_option linter.all false
/- What the row asks of the program, in parts. -/
namespace Go.Proofs.YtinfjeaocpifeaaGreat.worldNone
open Go.ChangeShapes Go.WideShapes Go.ChangeAt Go.RowKit
theorem hfn : Tryz.pinned.checked.prog.funcNamed Rows.worldNoneRow.func = some 3 := by kernel_rfl
theorem k2 : laidOutB Tryz.pinned.checked.prog = true := by kernel_rfl
theorem k3 : mapsRowed Tryz.pinned.checked.prog = true := by kernel_rfl
theorem k4 : Tryz.f3.params.all (Tryz.pinned.checked.prog.readableRec ·) = true := by kernel_rfl
end Go.Proofs.YtinfjeaocpifeaaGreat.worldNone
