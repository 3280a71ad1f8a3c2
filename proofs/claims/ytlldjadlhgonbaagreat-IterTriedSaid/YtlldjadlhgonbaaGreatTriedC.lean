/- Runs of IterTried, the rest of the number of hosts by eight known. -/
import Derived.Test.YtlldjadlhgonbaaGreatTab0
import Derived.Test.YtlldjadlhgonbaaGreatDenK
import Derived.KernelRfl
set_option maxRecDepth 100000
namespace Den
open Go
namespace KK
theorem tried6 : good (callK kt (natF 182 257) 100000 1000 11 [.int .i64 (.l (-9223372036854775802) [(20752587082923245567, 8)])] st0) = true := by kernel_rfl
end KK
end Den
