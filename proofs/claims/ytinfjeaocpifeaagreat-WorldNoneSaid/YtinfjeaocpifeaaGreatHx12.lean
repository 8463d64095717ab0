/- A part of the proof that the law answers true, whatever its numbers are. -/
import Derived.KernelRfl
import Derived.Test.YtinfjeaocpifeaaGreatHx6
set_option linter.all false
/- Blocks, run. -/
namespace Wn
set_option autoImplicit false
open Go Go.Hx Go.Hx.Fx
theorem m5 : said q5.2.2 (callF cx0 2000 (.fn 74 q5.2.1) St.start) = true := by kernel_rfl
theorem m11 : said q11.2.2 (callF cx0 2000 (.fn 74 q11.2.1) St.start) = true := by kernel_rfl
theorem m17 : said q17.2.2 (callF cx0 2000 (.fn 74 q17.2.1) St.start) = true := by kernel_rfl
theorem m23 : said q23.2.2 (callF cx0 2000 (.fn 74 q23.2.1) St.start) = true := by kernel_rfl
theorem m29 : said q29.2.2 (callF cx0 2000 (.fn 74 q29.2.1) St.start) = true := by kernel_rfl
theorem m35 : said q35.2.2 (callF cx0 2000 (.fn 74 q35.2.1) St.start) = true := by kernel_rfl
theorem m41 : said q41.2.2 (callF cx0 2000 (.fn 74 q41.2.1) St.start) = true := by kernel_rfl
theorem m47 : said q47.2.2 (callF cx0 2000 (.fn 74 q47.2.1) St.start) = true := by kernel_rfl
theorem m53 : said q53.2.2 (callF cx0 2000 (.fn 74 q53.2.1) St.start) = true := by kernel_rfl
theorem m59 : said q59.2.2 (callF cx0 2000 (.fn 74 q59.2.1) St.start) = true := by kernel_rfl
theorem m65 : said q65.2.2 (callF cx0 2000 (.fn 74 q65.2.1) St.start) = true := by kernel_rfl
theorem m71 : said q71.2.2 (callF cx0 2000 (.fn 74 q71.2.1) St.start) = true := by kernel_rfl
theorem m77 : said q77.2.2 (callF cx0 2000 (.fn 74 q77.2.1) St.start) = true := by kernel_rfl
theorem m83 : said q83.2.2 (callF cx0 2000 (.fn 74 q83.2.1) St.start) = true := by kernel_rfl
theorem m89 : said q89.2.2 (callF cx0 2000 (.fn 74 q89.2.1) St.start) = true := by kernel_rfl
theorem m95 : said q95.2.2 (callF cx0 2000 (.fn 74 q95.2.1) St.start) = true := by kernel_rfl
theorem m101 : said q101.2.2 (callF cx0 2000 (.fn 74 q101.2.1) St.start) = true := by kernel_rfl
theorem m107 : said q107.2.2 (callF cx0 2000 (.fn 74 q107.2.1) St.start) = true := by kernel_rfl
theorem m113 : said q113.2.2 (callF cx0 2000 (.fn 74 q113.2.1) St.start) = true := by kernel_rfl
theorem m119 : said q119.2.2 (callF cx0 2000 (.fn 74 q119.2.1) St.start) = true := by kernel_rfl
theorem m125 : said q125.2.2 (callF cx0 2000 (.fn 74 q125.2.1) St.start) = true := by kernel_rfl
theorem m131 : said q131.2.2 (callF cx0 2000 (.fn 74 q131.2.1) St.start) = true := by kernel_rfl
theorem m137 : said q137.2.2 (callF cx0 2000 (.fn 74 q137.2.1) St.start) = true := by kernel_rfl
theorem m143 : said q143.2.2 (callF cx0 2000 (.fn 74 q143.2.1) St.start) = true := by kernel_rfl
end Wn
