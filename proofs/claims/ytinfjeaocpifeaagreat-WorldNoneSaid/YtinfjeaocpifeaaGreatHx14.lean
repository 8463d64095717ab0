/- A part of the proof that the law answers true, whatever its numbers are. -/
import Derived.KernelRfl
import Derived.Test.YtinfjeaocpifeaaGreatHx6
set_option linter.all false
/- Awake, run. -/
namespace Wn
set_option autoImplicit false
open Go Go.Hx Go.Hx.Fx
theorem ma0 : said a0.2.2 (callF cx2 2000 (.fn 11 a0.2.1) St.start) = true := by kernel_rfl
end Wn

/- Digests, run. -/
namespace Wn
set_option autoImplicit false
open Go Go.Hx Go.Hx.Fx
theorem mh0 : said h0.2.2 (callF cx0 2000 (.fn 317 h0.2.1) St.start) = true := by kernel_rfl
end Wn

/- Digests, run. -/
namespace Wn
set_option autoImplicit false
open Go Go.Hx Go.Hx.Fx
theorem mh1 : said h1.2.2 (callF cx0 2000 (.fn 317 h1.2.1) St.start) = true := by kernel_rfl
end Wn

/- Digests, run. -/
namespace Wn
set_option autoImplicit false
open Go Go.Hx Go.Hx.Fx
theorem mh2 : said h2.2.2 (callF cx0 2000 (.fn 317 h2.2.1) St.start) = true := by kernel_rfl
end Wn
