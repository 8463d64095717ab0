/- A part of the proof that the law answers true, whatever its numbers are. -/
import Derived.KernelRfl
import Derived.Test.YtinfjeaocpifeaaGreatHx6
set_option linter.all false
/- Blocks, run. -/
namespace Wn
set_option autoImplicit false
open Go Go.Hx Go.Hx.Fx
theorem m2 : said q2.2.2 (callF cx0 2000 (.fn 74 q2.2.1) St.start) = true := by kernel_rfl
theorem m8 : said q8.2.2 (callF cx0 2000 (.fn 74 q8.2.1) St.start) = true := by kernel_rfl
theorem m14 : said q14.2.2 (callF cx0 2000 (.fn 74 q14.2.1) St.start) = true := by kernel_rfl
theorem m20 : said q20.2.2 (callF cx0 2000 (.fn 74 q20.2.1) St.start) = true := by kernel_rfl
theorem m26 : said q26.2.2 (callF cx0 2000 (.fn 74 q26.2.1) St.start) = true := by kernel_rfl
theorem m32 : said q32.2.2 (callF cx0 2000 (.fn 74 q32.2.1) St.start) = true := by kernel_rfl
theorem m38 : said q38.2.2 (callF cx0 2000 (.fn 74 q38.2.1) St.start) = true := by kernel_rfl
theorem m44 : said q44.2.2 (callF cx0 2000 (.fn 74 q44.2.1) St.start) = true := by kernel_rfl
theorem m50 : said q50.2.2 (callF cx0 2000 (.fn 74 q50.2.1) St.start) = true := by kernel_rfl
theorem m56 : said q56.2.2 (callF cx0 2000 (.fn 74 q56.2.1) St.start) = true := by kernel_rfl
theorem m62 : said q62.2.2 (callF cx0 2000 (.fn 74 q62.2.1) St.start) = true := by kernel_rfl
theorem m68 : said q68.2.2 (callF cx0 2000 (.fn 74 q68.2.1) St.start) = true := by kernel_rfl
theorem m74 : said q74.2.2 (callF cx0 2000 (.fn 74 q74.2.1) St.start) = true := by kernel_rfl
theorem m80 : said q80.2.2 (callF cx0 2000 (.fn 74 q80.2.1) St.start) = true := by kernel_rfl
theorem m86 : said q86.2.2 (callF cx0 2000 (.fn 74 q86.2.1) St.start) = true := by kernel_rfl
theorem m92 : said q92.2.2 (callF cx0 2000 (.fn 74 q92.2.1) St.start) = true := by kernel_rfl
theorem m98 : said q98.2.2 (callF cx0 2000 (.fn 74 q98.2.1) St.start) = true := by kernel_rfl
theorem m104 : said q104.2.2 (callF cx0 2000 (.fn 74 q104.2.1) St.start) = true := by kernel_rfl
theorem m110 : said q110.2.2 (callF cx0 2000 (.fn 74 q110.2.1) St.start) = true := by kernel_rfl
theorem m116 : said q116.2.2 (callF cx0 2000 (.fn 74 q116.2.1) St.start) = true := by kernel_rfl
theorem m122 : said q122.2.2 (callF cx0 2000 (.fn 74 q122.2.1) St.start) = true := by kernel_rfl
theorem m128 : said q128.2.2 (callF cx0 2000 (.fn 74 q128.2.1) St.start) = true := by kernel_rfl
theorem m134 : said q134.2.2 (callF cx0 2000 (.fn 74 q134.2.1) St.start) = true := by kernel_rfl
theorem m140 : said q140.2.2 (callF cx0 2000 (.fn 74 q140.2.1) St.start) = true := by kernel_rfl
theorem m146 : said q146.2.2 (callF cx0 2000 (.fn 74 q146.2.1) St.start) = true := by kernel_rfl
end Wn
