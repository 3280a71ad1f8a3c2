/- Runs of IterHosts. -/
import Derived.Test.YtlldjadlhgonbaaGreatTabN0
import Derived.Test.YtlldjadlhgonbaaGreatDenK
import Derived.KernelRfl
set_option maxRecDepth 100000
namespace Den
open Go
namespace KK
theorem run_IterHosts_4_s0 : good (callK kt (natF 182 257) 100000 1000 7 [.int .i64 (.l 4 [(22136092888451461938, 5), (36893488147419103233, -18446744073709551616)]), .int .i64 (.l (-9223372036854775808) [(92233720368547758335, 1), (73859033888876134399, 256)])] st0) = true := by kernel_rfl
end KK
end Den
