/- Runs of IterHolds. -/
import Derived.Test.YtlldjadlhgonbaaGreatTabN0
import Derived.Test.YtlldjadlhgonbaaGreatDenK
import Derived.KernelRfl
set_option maxRecDepth 100000
namespace Den
open Go
namespace KK
theorem run_IterHolds_1t8_8_f : good (callK kt (natF 182 257) 100000 1000 3 [.int .i64 (.l (-9223372036854775807) [(36893488147419103239, 1), (19023204826012975103, 32)]), .int .i64 (.l (-9223372036854775800) [(92810181120851181567, 32)]), .bool false] st0) = true := by kernel_rfl
theorem run_IterHolds_9t31_8_f : good (callK kt (natF 182 257) 100000 1000 3 [.int .i64 (.l (-9223372036854775799) [(36893488147419103254, 1), (19023204826012975103, 32)]), .int .i64 (.l (-9223372036854775800) [(92810181120851181567, 32)]), .bool false] st0) = true := by kernel_rfl
theorem run_IterHolds_0_9_f : good (callK kt (natF 182 257) 100000 1000 3 [.int .i64 (.l (-9223372036854775808) [(19023204826012975103, 32)]), .int .i64 (.l (-9223372036854775799) [(92810181120851181567, 32)]), .bool false] st0) = true := by kernel_rfl
theorem run_IterHolds_1t9_9_f : good (callK kt (natF 182 257) 100000 1000 3 [.int .i64 (.l (-9223372036854775807) [(36893488147419103240, 1), (19023204826012975103, 32)]), .int .i64 (.l (-9223372036854775799) [(92810181120851181567, 32)]), .bool false] st0) = true := by kernel_rfl
theorem run_IterHolds_10t31_9_f : good (callK kt (natF 182 257) 100000 1000 3 [.int .i64 (.l (-9223372036854775798) [(36893488147419103253, 1), (19023204826012975103, 32)]), .int .i64 (.l (-9223372036854775799) [(92810181120851181567, 32)]), .bool false] st0) = true := by kernel_rfl
theorem run_IterHolds_0_10_f : good (callK kt (natF 182 257) 100000 1000 3 [.int .i64 (.l (-9223372036854775808) [(19023204826012975103, 32)]), .int .i64 (.l (-9223372036854775798) [(92810181120851181567, 32)]), .bool false] st0) = true := by kernel_rfl
theorem run_IterHolds_1t10_10_f : good (callK kt (natF 182 257) 100000 1000 3 [.int .i64 (.l (-9223372036854775807) [(36893488147419103241, 1), (19023204826012975103, 32)]), .int .i64 (.l (-9223372036854775798) [(92810181120851181567, 32)]), .bool false] st0) = true := by kernel_rfl
theorem run_IterHolds_11t31_10_f : good (callK kt (natF 182 257) 100000 1000 3 [.int .i64 (.l (-9223372036854775797) [(36893488147419103252, 1), (19023204826012975103, 32)]), .int .i64 (.l (-9223372036854775798) [(92810181120851181567, 32)]), .bool false] st0) = true := by kernel_rfl
theorem run_IterHolds_0_11_f : good (callK kt (natF 182 257) 100000 1000 3 [.int .i64 (.l (-9223372036854775808) [(19023204826012975103, 32)]), .int .i64 (.l (-9223372036854775797) [(92810181120851181567, 32)]), .bool false] st0) = true := by kernel_rfl
theorem run_IterHolds_1t11_11_f : good (callK kt (natF 182 257) 100000 1000 3 [.int .i64 (.l (-9223372036854775807) [(36893488147419103242, 1), (19023204826012975103, 32)]), .int .i64 (.l (-9223372036854775797) [(92810181120851181567, 32)]), .bool false] st0) = true := by kernel_rfl
theorem run_IterHolds_12t31_11_f : good (callK kt (natF 182 257) 100000 1000 3 [.int .i64 (.l (-9223372036854775796) [(36893488147419103251, 1), (19023204826012975103, 32)]), .int .i64 (.l (-9223372036854775797) [(92810181120851181567, 32)]), .bool false] st0) = true := by kernel_rfl
theorem run_IterHolds_0_12_f : good (callK kt (natF 182 257) 100000 1000 3 [.int .i64 (.l (-9223372036854775808) [(19023204826012975103, 32)]), .int .i64 (.l (-9223372036854775796) [(92810181120851181567, 32)]), .bool false] st0) = true := by kernel_rfl
end KK
end Den
