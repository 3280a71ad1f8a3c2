/- Runs of IterBad. -/
import Derived.Test.YtlldjadlhgonbaaGreatTab0
import Derived.Test.YtlldjadlhgonbaaGreatDenK
import Derived.KernelRfl
set_option maxRecDepth 100000
namespace Den
open Go
namespace KK
theorem run_IterBad_4_0 : good (callK kt (natF 182 257) 100000 1000 9 [.int .i64 (.l 4 [(22136092888451461938, 5), (36893488147419103233, -18446744073709551616)]), .int .i64 (.l (-9223372036854775808) [(59951918239556042751, 4)])] st0) = true := by kernel_rfl
theorem run_IterBad_4_1 : good (callK kt (natF 182 257) 100000 1000 9 [.int .i64 (.l 4 [(22136092888451461938, 5), (36893488147419103233, -18446744073709551616)]), .int .i64 (.l (-9223372036854775807) [(59951918239556042751, 4)])] st0) = true := by kernel_rfl
end KK
end Den
