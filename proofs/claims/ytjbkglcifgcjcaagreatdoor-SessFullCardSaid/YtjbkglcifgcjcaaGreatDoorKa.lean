import Derived.Test.YtjbkglcifgcjcaaGreatDoorTa
import Derived.KernelRfl
set_option maxRecDepth 1000000
namespace TA
open Go Dv
theorem anchor23 : (evAll ctx 200).1 14 [] [] = some (.bool true, []) := by kernel_rfl
end TA
