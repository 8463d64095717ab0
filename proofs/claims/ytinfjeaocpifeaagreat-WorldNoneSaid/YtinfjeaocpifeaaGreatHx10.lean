/- A part of the proof that the law answers true, whatever its numbers are. -/
import Derived.KernelRfl
import Derived.Test.YtinfjeaocpifeaaGreatHx6
set_option linter.all false
/- Blocks, run. -/
namespace Wn
set_option autoImplicit false
open Go Go.Hx Go.Hx.Fx
theorem m3 : said q3.2.2 (callF cx0 2000 (.fn 74 q3.2.1) St.start) = true := by kernel_rfl
theorem m9 : said q9.2.2 (callF cx0 2000 (.fn 74 q9.2.1) St.start) = true := by kernel_rfl
theorem m15 : said q15.2.2 (callF cx0 2000 (.fn 74 q15.2.1) St.start) = true := by kernel_rfl
theorem m21 : said q21.2.2 (callF cx0 2000 (.fn 74 q21.2.1) St.start) = true := by kernel_rfl
theorem m27 : said q27.2.2 (callF cx0 2000 (.fn 74 q27.2.1) St.start) = true := by kernel_rfl
theorem m33 : said q33.2.2 (callF cx0 2000 (.fn 74 q33.2.1) St.start) = true := by kernel_rfl
theorem m39 : said q39.2.2 (callF cx0 2000 (.fn 74 q39.2.1) St.start) = true := by kernel_rfl
theorem m45 : said q45.2.2 (callF cx0 2000 (.fn 74 q45.2.1) St.start) = true := by kernel_rfl
theorem m51 : said q51.2.2 (callF cx0 2000 (.fn 74 q51.2.1) St.start) = true := by kernel_rfl
theorem m57 : said q57.2.2 (callF cx0 2000 (.fn 74 q57.2.1) St.start) = true := by kernel_rfl
theorem m63 : said q63.2.2 (callF cx0 2000 (.fn 74 q63.2.1) St.start) = true := by kernel_rfl
theorem m69 : said q69.2.2 (callF cx0 2000 (.fn 74 q69.2.1) St.start) = true := by kernel_rfl
theorem m75 : said q75.2.2 (callF cx0 2000 (.fn 74 q75.2.1) St.start) = true := by kernel_rfl
theorem m81 : said q81.2.2 (callF cx0 2000 (.fn 74 q81.2.1) St.start) = true := by kernel_rfl
theorem m87 : said q87.2.2 (callF cx0 2000 (.fn 74 q87.2.1) St.start) = true := by kernel_rfl
theorem m93 : said q93.2.2 (callF cx0 2000 (.fn 74 q93.2.1) St.start) = true := by kernel_rfl
theorem m99 : said q99.2.2 (callF cx0 2000 (.fn 74 q99.2.1) St.start) = true := by kernel_rfl
theorem m105 : said q105.2.2 (callF cx0 2000 (.fn 74 q105.2.1) St.start) = true := by kernel_rfl
theorem m111 : said q111.2.2 (callF cx0 2000 (.fn 74 q111.2.1) St.start) = true := by kernel_rfl
theorem m117 : said q117.2.2 (callF cx0 2000 (.fn 74 q117.2.1) St.start) = true := by kernel_rfl
theorem m123 : said q123.2.2 (callF cx0 2000 (.fn 74 q123.2.1) St.start) = true := by kernel_rfl
theorem m129 : said q129.2.2 (callF cx0 2000 (.fn 74 q129.2.1) St.start) = true := by kernel_rfl
theorem m135 : said q135.2.2 (callF cx0 2000 (.fn 74 q135.2.1) St.start) = true := by kernel_rfl
theorem m141 : said q141.2.2 (callF cx0 2000 (.fn 74 q141.2.1) St.start) = true := by kernel_rfl
end Wn
