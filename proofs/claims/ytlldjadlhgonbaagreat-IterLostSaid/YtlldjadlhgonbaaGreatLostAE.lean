/- Runs of IterLost. -/
import Derived.Test.YtlldjadlhgonbaaGreatTabN0
import Derived.Test.YtlldjadlhgonbaaGreatDenK
import Derived.KernelRfl
set_option maxRecDepth 100000
namespace Den
open Go
namespace KK
theorem run_IterLost_4_0_0 : good (callK kt (natF 182 257) 100000 1000 5 [.int .i64 (.l (-9223372036854775804) [(20752587082923245567, 8)]), .int .i64 (.l (-9223372036854775808) [(46116860184273879039, 2)]), .int .i64 (.l (-9223372036854775808) [(74939897799445053439, 16)])] st0) = true := by kernel_rfl
theorem run_IterLost_4_0_1t15 : good (callK kt (natF 182 257) 100000 1000 5 [.int .i64 (.l (-9223372036854775804) [(20752587082923245567, 8)]), .int .i64 (.l (-9223372036854775808) [(46116860184273879039, 2)]), .int .i64 (.l (-9223372036854775807) [(92233720368547758094, 1), (74939897799445053439, 16)])] st0) = true := by kernel_rfl
theorem run_IterLost_4_1_0 : good (callK kt (natF 182 257) 100000 1000 5 [.int .i64 (.l (-9223372036854775804) [(20752587082923245567, 8)]), .int .i64 (.l (-9223372036854775807) [(46116860184273879039, 2)]), .int .i64 (.l (-9223372036854775808) [(74939897799445053439, 16)])] st0) = true := by kernel_rfl
theorem run_IterLost_4_1_1t15 : good (callK kt (natF 182 257) 100000 1000 5 [.int .i64 (.l (-9223372036854775804) [(20752587082923245567, 8)]), .int .i64 (.l (-9223372036854775807) [(46116860184273879039, 2)]), .int .i64 (.l (-9223372036854775807) [(92233720368547758094, 1), (74939897799445053439, 16)])] st0) = true := by kernel_rfl
end KK
end Den
