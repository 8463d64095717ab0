/- A part of the proof that the law answers true, whatever its numbers are. -/
import Derived.KernelRfl
import Derived.Test.YtinfjeaocpifeaaGreatHx6
set_option linter.all false
/- Blocks, run. -/
namespace Wn
set_option autoImplicit false
open Go Go.Hx Go.Hx.Fx
theorem m4 : said q4.2.2 (callF cx0 2000 (.fn 74 q4.2.1) St.start) = true := by kernel_rfl
theorem m10 : said q10.2.2 (callF cx0 2000 (.fn 74 q10.2.1) St.start) = true := by kernel_rfl
theorem m16 : said q16.2.2 (callF cx0 2000 (.fn 74 q16.2.1) St.start) = true := by kernel_rfl
theorem m22 : said q22.2.2 (callF cx0 2000 (.fn 74 q22.2.1) St.start) = true := by kernel_rfl
theorem m28 : said q28.2.2 (callF cx0 2000 (.fn 74 q28.2.1) St.start) = true := by kernel_rfl
theorem m34 : said q34.2.2 (callF cx0 2000 (.fn 74 q34.2.1) St.start) = true := by kernel_rfl
theorem m40 : said q40.2.2 (callF cx0 2000 (.fn 74 q40.2.1) St.start) = true := by kernel_rfl
theorem m46 : said q46.2.2 (callF cx0 2000 (.fn 74 q46.2.1) St.start) = true := by kernel_rfl
theorem m52 : said q52.2.2 (callF cx0 2000 (.fn 74 q52.2.1) St.start) = true := by kernel_rfl
theorem m58 : said q58.2.2 (callF cx0 2000 (.fn 74 q58.2.1) St.start) = true := by kernel_rfl
theorem m64 : said q64.2.2 (callF cx0 2000 (.fn 74 q64.2.1) St.start) = true := by kernel_rfl
theorem m70 : said q70.2.2 (callF cx0 2000 (.fn 74 q70.2.1) St.start) = true := by kernel_rfl
theorem m76 : said q76.2.2 (callF cx0 2000 (.fn 74 q76.2.1) St.start) = true := by kernel_rfl
theorem m82 : said q82.2.2 (callF cx0 2000 (.fn 74 q82.2.1) St.start) = true := by kernel_rfl
theorem m88 : said q88.2.2 (callF cx0 2000 (.fn 74 q88.2.1) St.start) = true := by kernel_rfl
theorem m94 : said q94.2.2 (callF cx0 2000 (.fn 74 q94.2.1) St.start) = true := by kernel_rfl
theorem m100 : said q100.2.2 (callF cx0 2000 (.fn 74 q100.2.1) St.start) = true := by kernel_rfl
theorem m106 : said q106.2.2 (callF cx0 2000 (.fn 74 q106.2.1) St.start) = true := by kernel_rfl
theorem m112 : said q112.2.2 (callF cx0 2000 (.fn 74 q112.2.1) St.start) = true := by kernel_rfl
theorem m118 : said q118.2.2 (callF cx0 2000 (.fn 74 q118.2.1) St.start) = true := by kernel_rfl
theorem m124 : said q124.2.2 (callF cx0 2000 (.fn 74 q124.2.1) St.start) = true := by kernel_rfl
theorem m130 : said q130.2.2 (callF cx0 2000 (.fn 74 q130.2.1) St.start) = true := by kernel_rfl
theorem m136 : said q136.2.2 (callF cx0 2000 (.fn 74 q136.2.1) St.start) = true := by kernel_rfl
theorem m142 : said q142.2.2 (callF cx0 2000 (.fn 74 q142.2.1) St.start) = true := by kernel_rfl
end Wn
