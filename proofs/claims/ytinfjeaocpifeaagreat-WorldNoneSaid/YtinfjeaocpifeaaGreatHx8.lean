/- A part of the proof that the law answers true, whatever its numbers are. -/
import Derived.KernelRfl
import Derived.Test.YtinfjeaocpifeaaGreatHx6
set_option linter.all false
/- Blocks, run. -/
namespace Wn
set_option autoImplicit false
open Go Go.Hx Go.Hx.Fx
theorem m1 : said q1.2.2 (callF cx0 2000 (.fn 74 q1.2.1) St.start) = true := by kernel_rfl
theorem m7 : said q7.2.2 (callF cx0 2000 (.fn 74 q7.2.1) St.start) = true := by kernel_rfl
theorem m13 : said q13.2.2 (callF cx0 2000 (.fn 74 q13.2.1) St.start) = true := by kernel_rfl
theorem m19 : said q19.2.2 (callF cx0 2000 (.fn 74 q19.2.1) St.start) = true := by kernel_rfl
theorem m25 : said q25.2.2 (callF cx0 2000 (.fn 74 q25.2.1) St.start) = true := by kernel_rfl
theorem m31 : said q31.2.2 (callF cx0 2000 (.fn 74 q31.2.1) St.start) = true := by kernel_rfl
theorem m37 : said q37.2.2 (callF cx0 2000 (.fn 74 q37.2.1) St.start) = true := by kernel_rfl
theorem m43 : said q43.2.2 (callF cx0 2000 (.fn 74 q43.2.1) St.start) = true := by kernel_rfl
theorem m49 : said q49.2.2 (callF cx0 2000 (.fn 74 q49.2.1) St.start) = true := by kernel_rfl
theorem m55 : said q55.2.2 (callF cx0 2000 (.fn 74 q55.2.1) St.start) = true := by kernel_rfl
theorem m61 : said q61.2.2 (callF cx0 2000 (.fn 74 q61.2.1) St.start) = true := by kernel_rfl
theorem m67 : said q67.2.2 (callF cx0 2000 (.fn 74 q67.2.1) St.start) = true := by kernel_rfl
theorem m73 : said q73.2.2 (callF cx0 2000 (.fn 74 q73.2.1) St.start) = true := by kernel_rfl
theorem m79 : said q79.2.2 (callF cx0 2000 (.fn 74 q79.2.1) St.start) = true := by kernel_rfl
theorem m85 : said q85.2.2 (callF cx0 2000 (.fn 74 q85.2.1) St.start) = true := by kernel_rfl
theorem m91 : said q91.2.2 (callF cx0 2000 (.fn 74 q91.2.1) St.start) = true := by kernel_rfl
theorem m97 : said q97.2.2 (callF cx0 2000 (.fn 74 q97.2.1) St.start) = true := by kernel_rfl
theorem m103 : said q103.2.2 (callF cx0 2000 (.fn 74 q103.2.1) St.start) = true := by kernel_rfl
theorem m109 : said q109.2.2 (callF cx0 2000 (.fn 74 q109.2.1) St.start) = true := by kernel_rfl
theorem m115 : said q115.2.2 (callF cx0 2000 (.fn 74 q115.2.1) St.start) = true := by kernel_rfl
theorem m121 : said q121.2.2 (callF cx0 2000 (.fn 74 q121.2.1) St.start) = true := by kernel_rfl
theorem m127 : said q127.2.2 (callF cx0 2000 (.fn 74 q127.2.1) St.start) = true := by kernel_rfl
theorem m133 : said q133.2.2 (callF cx0 2000 (.fn 74 q133.2.1) St.start) = true := by kernel_rfl
theorem m139 : said q139.2.2 (callF cx0 2000 (.fn 74 q139.2.1) St.start) = true := by kernel_rfl
theorem m145 : said q145.2.2 (callF cx0 2000 (.fn 74 q145.2.1) St.start) = true := by kernel_rfl
end Wn
