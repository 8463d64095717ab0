/- A part of the proof that the law answers true, whatever its numbers are. -/
import Derived.KernelRfl
import Derived.Test.YtinfjeaocpifeaaGreatHx6
set_option linter.all false
/- Runs of the law. -/
namespace Wn
set_option autoImplicit false
open Go Go.Hx Go.Hx.Fx
theorem l0 (x y : AV) : allB 100 (fun k => run3 0 k x y) = true := by kernel_rfl
end Wn

/- Runs of the law. -/
namespace Wn
set_option autoImplicit false
open Go Go.Hx Go.Hx.Fx
theorem l1 (x y : AV) : allB 100 (fun k => run3 1 k x y) = true := by kernel_rfl
end Wn

/- Runs of the law. -/
namespace Wn
set_option autoImplicit false
open Go Go.Hx Go.Hx.Fx
theorem l2 (x y : AV) : allB 100 (fun k => run3 2 k x y) = true := by kernel_rfl
end Wn

/- Runs of the law. -/
namespace Wn
set_option autoImplicit false
open Go Go.Hx Go.Hx.Fx
theorem l3 (x y : AV) : allB 100 (fun k => run3 3 k x y) = true := by kernel_rfl
end Wn
