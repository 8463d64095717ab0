/- A part of the proof that the law answers true, whatever its numbers are. -/
import Derived.KernelRfl
import Derived.Test.YtinfjeaocpifeaaGreatHx6
set_option linter.all false
/- Blocks, run. -/
namespace Wn
set_option autoImplicit false
open Go Go.Hx Go.Hx.Fx
theorem m0 : said q0.2.2 (callF cx0 2000 (.fn 74 q0.2.1) St.start) = true := by kernel_rfl
theorem m6 : said q6.2.2 (callF cx0 2000 (.fn 74 q6.2.1) St.start) = true := by kernel_rfl
theorem m12 : said q12.2.2 (callF cx0 2000 (.fn 74 q12.2.1) St.start) = true := by kernel_rfl
theorem m18 : said q18.2.2 (callF cx0 2000 (.fn 74 q18.2.1) St.start) = true := by kernel_rfl
theorem m24 : said q24.2.2 (callF cx0 2000 (.fn 74 q24.2.1) St.start) = true := by kernel_rfl
theorem m30 : said q30.2.2 (callF cx0 2000 (.fn 74 q30.2.1) St.start) = true := by kernel_rfl
theorem m36 : said q36.2.2 (callF cx0 2000 (.fn 74 q36.2.1) St.start) = true := by kernel_rfl
theorem m42 : said q42.2.2 (callF cx0 2000 (.fn 74 q42.2.1) St.start) = true := by kernel_rfl
theorem m48 : said q48.2.2 (callF cx0 2000 (.fn 74 q48.2.1) St.start) = true := by kernel_rfl
theorem m54 : said q54.2.2 (callF cx0 2000 (.fn 74 q54.2.1) St.start) = true := by kernel_rfl
theorem m60 : said q60.2.2 (callF cx0 2000 (.fn 74 q60.2.1) St.start) = true := by kernel_rfl
theorem m66 : said q66.2.2 (callF cx0 2000 (.fn 74 q66.2.1) St.start) = true := by kernel_rfl
theorem m72 : said q72.2.2 (callF cx0 2000 (.fn 74 q72.2.1) St.start) = true := by kernel_rfl
theorem m78 : said q78.2.2 (callF cx0 2000 (.fn 74 q78.2.1) St.start) = true := by kernel_rfl
theorem m84 : said q84.2.2 (callF cx0 2000 (.fn 74 q84.2.1) St.start) = true := by kernel_rfl
theorem m90 : said q90.2.2 (callF cx0 2000 (.fn 74 q90.2.1) St.start) = true := by kernel_rfl
theorem m96 : said q96.2.2 (callF cx0 2000 (.fn 74 q96.2.1) St.start) = true := by kernel_rfl
theorem m102 : said q102.2.2 (callF cx0 2000 (.fn 74 q102.2.1) St.start) = true := by kernel_rfl
theorem m108 : said q108.2.2 (callF cx0 2000 (.fn 74 q108.2.1) St.start) = true := by kernel_rfl
theorem m114 : said q114.2.2 (callF cx0 2000 (.fn 74 q114.2.1) St.start) = true := by kernel_rfl
theorem m120 : said q120.2.2 (callF cx0 2000 (.fn 74 q120.2.1) St.start) = true := by kernel_rfl
theorem m126 : said q126.2.2 (callF cx0 2000 (.fn 74 q126.2.1) St.start) = true := by kernel_rfl
theorem m132 : said q132.2.2 (callF cx0 2000 (.fn 74 q132.2.1) St.start) = true := by kernel_rfl
theorem m138 : said q138.2.2 (callF cx0 2000 (.fn 74 q138.2.1) St.start) = true := by kernel_rfl
theorem m144 : said q144.2.2 (callF cx0 2000 (.fn 74 q144.2.1) St.start) = true := by kernel_rfl
end Wn
