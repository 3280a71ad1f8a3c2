/- Runs of IterHolds. -/
import Derived.Test.YtlldjadlhgonbaaGreatTabN0
import Derived.Test.YtlldjadlhgonbaaGreatDenK
import Derived.KernelRfl
set_option maxRecDepth 100000
namespace Den
open Go
namespace KK
theorem run_IterHolds_1t4_4_f : good (callK kt (natF 182 257) 100000 1000 3 [.int .i64 (.l (-9223372036854775807) [(36893488147419103235, 1), (19023204826012975103, 32)]), .int .i64 (.l (-9223372036854775804) [(92810181120851181567, 32)]), .bool false] st0) = true := by kernel_rfl
theorem run_IterHolds_5t31_4_f : good (callK kt (natF 182 257) 100000 1000 3 [.int .i64 (.l (-9223372036854775803) [(36893488147419103258, 1), (19023204826012975103, 32)]), .int .i64 (.l (-9223372036854775804) [(92810181120851181567, 32)]), .bool false] st0) = true := by kernel_rfl
theorem run_IterHolds_0_5_f : good (callK kt (natF 182 257) 100000 1000 3 [.int .i64 (.l (-9223372036854775808) [(19023204826012975103, 32)]), .int .i64 (.l (-9223372036854775803) [(92810181120851181567, 32)]), .bool false] st0) = true := by kernel_rfl
theorem run_IterHolds_1t5_5_f : good (callK kt (natF 182 257) 100000 1000 3 [.int .i64 (.l (-9223372036854775807) [(36893488147419103236, 1), (19023204826012975103, 32)]), .int .i64 (.l (-9223372036854775803) [(92810181120851181567, 32)]), .bool false] st0) = true := by kernel_rfl
theorem run_IterHolds_6t31_5_f : good (callK kt (natF 182 257) 100000 1000 3 [.int .i64 (.l (-9223372036854775802) [(36893488147419103257, 1), (19023204826012975103, 32)]), .int .i64 (.l (-9223372036854775803) [(92810181120851181567, 32)]), .bool false] st0) = true := by kernel_rfl
theorem run_IterHolds_0_6_f : good (callK kt (natF 182 257) 100000 1000 3 [.int .i64 (.l (-9223372036854775808) [(19023204826012975103, 32)]), .int .i64 (.l (-9223372036854775802) [(92810181120851181567, 32)]), .bool false] st0) = true := by kernel_rfl
theorem run_IterHolds_1t6_6_f : good (callK kt (natF 182 257) 100000 1000 3 [.int .i64 (.l (-9223372036854775807) [(36893488147419103237, 1), (19023204826012975103, 32)]), .int .i64 (.l (-9223372036854775802) [(92810181120851181567, 32)]), .bool false] st0) = true := by kernel_rfl
theorem run_IterHolds_7t31_6_f : good (callK kt (natF 182 257) 100000 1000 3 [.int .i64 (.l (-9223372036854775801) [(36893488147419103256, 1), (19023204826012975103, 32)]), .int .i64 (.l (-9223372036854775802) [(92810181120851181567, 32)]), .bool false] st0) = true := by kernel_rfl
theorem run_IterHolds_0_7_f : good (callK kt (natF 182 257) 100000 1000 3 [.int .i64 (.l (-9223372036854775808) [(19023204826012975103, 32)]), .int .i64 (.l (-9223372036854775801) [(92810181120851181567, 32)]), .bool false] st0) = true := by kernel_rfl
theorem run_IterHolds_1t7_7_f : good (callK kt (natF 182 257) 100000 1000 3 [.int .i64 (.l (-9223372036854775807) [(36893488147419103238, 1), (19023204826012975103, 32)]), .int .i64 (.l (-9223372036854775801) [(92810181120851181567, 32)]), .bool false] st0) = true := by kernel_rfl
theorem run_IterHolds_8t31_7_f : good (callK kt (natF 182 257) 100000 1000 3 [.int .i64 (.l (-9223372036854775800) [(36893488147419103255, 1), (19023204826012975103, 32)]), .int .i64 (.l (-9223372036854775801) [(92810181120851181567, 32)]), .bool false] st0) = true := by kernel_rfl
theorem run_IterHolds_0_8_f : good (callK kt (natF 182 257) 100000 1000 3 [.int .i64 (.l (-9223372036854775808) [(19023204826012975103, 32)]), .int .i64 (.l (-9223372036854775800) [(92810181120851181567, 32)]), .bool false] st0) = true := by kernel_rfl
end KK
end Den
