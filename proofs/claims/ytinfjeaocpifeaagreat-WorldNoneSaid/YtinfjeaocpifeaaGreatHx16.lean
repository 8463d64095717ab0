/- A part of the proof that the law answers true, whatever its numbers are. -/
import Derived.KernelRfl
import Derived.Test.YtinfjeaocpifeaaGreatHx6
set_option linter.all false
/- Runs of the law. -/
namespace Wn
set_option autoImplicit false
open Go Go.Hx Go.Hx.Fx
theorem l4 (x y : AV) : allB 100 (fun k => run3 4 k x y) = true := by kernel_rfl
end Wn

/- Runs of the law. -/
namespace Wn
set_option autoImplicit false
open Go Go.Hx Go.Hx.Fx
theorem l5 (x y : AV) : allB 100 (fun k => run3 5 k x y) = true := by kernel_rfl
end Wn

/- Runs of the law. -/
namespace Wn
set_option autoImplicit false
open Go Go.Hx Go.Hx.Fx
theorem l6 (x y : AV) : allB 100 (fun k => run3 6 k x y) = true := by kernel_rfl
end Wn
