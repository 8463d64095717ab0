/- A part of the proof that the law answers true, whatever its numbers are. -/
import Derived.KernelRfl
import Derived.Test.YtinfjeaocpifeaaGreatHx6
set_option linter.all false
/- Keys, run. -/
namespace Wn
set_option autoImplicit false
open Go Go.Hx Go.Hx.Fx
theorem mp0 : said p0.2.2 (callF cx1 2000 (.fn 33 p0.2.1) St.start) = true := by kernel_rfl
end Wn

/- Keys, run. -/
namespace Wn
set_option autoImplicit false
open Go Go.Hx Go.Hx.Fx
theorem mp1 : said p1.2.2 (callF cx1 2000 (.fn 33 p1.2.1) St.start) = true := by kernel_rfl
end Wn
