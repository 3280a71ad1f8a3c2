/- Runs of IterHolds. -/
import Derived.Test.YtlldjadlhgonbaaGreatTabN0
import Derived.Test.YtlldjadlhgonbaaGreatDenK
import Derived.KernelRfl
set_option maxRecDepth 100000
namespace Den
open Go
namespace KK
theorem run_IterHolds_1t20_20_f : good (callK kt (natF 182 257) 100000 1000 3 [.int .i64 (.l (-9223372036854775807) [(36893488147419103251, 1), (19023204826012975103, 32)]), .int .i64 (.l (-9223372036854775788) [(92810181120851181567, 32)]), .bool false] st0) = true := by kernel_rfl
theorem run_IterHolds_21t31_20_f : good (callK kt (natF 182 257) 100000 1000 3 [.int .i64 (.l (-9223372036854775787) [(36893488147419103242, 1), (19023204826012975103, 32)]), .int .i64 (.l (-9223372036854775788) [(92810181120851181567, 32)]), .bool false] st0) = true := by kernel_rfl
theorem run_IterHolds_0_21_f : good (callK kt (natF 182 257) 100000 1000 3 [.int .i64 (.l (-9223372036854775808) [(19023204826012975103, 32)]), .int .i64 (.l (-9223372036854775787) [(92810181120851181567, 32)]), .bool false] st0) = true := by kernel_rfl
theorem run_IterHolds_1t21_21_f : good (callK kt (natF 182 257) 100000 1000 3 [.int .i64 (.l (-9223372036854775807) [(36893488147419103252, 1), (19023204826012975103, 32)]), .int .i64 (.l (-9223372036854775787) [(92810181120851181567, 32)]), .bool false] st0) = true := by kernel_rfl
theorem run_IterHolds_22t31_21_f : good (callK kt (natF 182 257) 100000 1000 3 [.int .i64 (.l (-9223372036854775786) [(36893488147419103241, 1), (19023204826012975103, 32)]), .int .i64 (.l (-9223372036854775787) [(92810181120851181567, 32)]), .bool false] st0) = true := by kernel_rfl
theorem run_IterHolds_0_22_f : good (callK kt (natF 182 257) 100000 1000 3 [.int .i64 (.l (-9223372036854775808) [(19023204826012975103, 32)]), .int .i64 (.l (-9223372036854775786) [(92810181120851181567, 32)]), .bool false] st0) = true := by kernel_rfl
theorem run_IterHolds_1t22_22_f : good (callK kt (natF 182 257) 100000 1000 3 [.int .i64 (.l (-9223372036854775807) [(36893488147419103253, 1), (19023204826012975103, 32)]), .int .i64 (.l (-9223372036854775786) [(92810181120851181567, 32)]), .bool false] st0) = true := by kernel_rfl
theorem run_IterHolds_23t31_22_f : good (callK kt (natF 182 257) 100000 1000 3 [.int .i64 (.l (-9223372036854775785) [(36893488147419103240, 1), (19023204826012975103, 32)]), .int .i64 (.l (-9223372036854775786) [(92810181120851181567, 32)]), .bool false] st0) = true := by kernel_rfl
theorem run_IterHolds_0_23_f : good (callK kt (natF 182 257) 100000 1000 3 [.int .i64 (.l (-9223372036854775808) [(19023204826012975103, 32)]), .int .i64 (.l (-9223372036854775785) [(92810181120851181567, 32)]), .bool false] st0) = true := by kernel_rfl
theorem run_IterHolds_1t23_23_f : good (callK kt (natF 182 257) 100000 1000 3 [.int .i64 (.l (-9223372036854775807) [(36893488147419103254, 1), (19023204826012975103, 32)]), .int .i64 (.l (-9223372036854775785) [(92810181120851181567, 32)]), .bool false] st0) = true := by kernel_rfl
theorem run_IterHolds_24t31_23_f : good (callK kt (natF 182 257) 100000 1000 3 [.int .i64 (.l (-9223372036854775784) [(36893488147419103239, 1), (19023204826012975103, 32)]), .int .i64 (.l (-9223372036854775785) [(92810181120851181567, 32)]), .bool false] st0) = true := by kernel_rfl
theorem run_IterHolds_0_24_f : good (callK kt (natF 182 257) 100000 1000 3 [.int .i64 (.l (-9223372036854775808) [(19023204826012975103, 32)]), .int .i64 (.l (-9223372036854775784) [(92810181120851181567, 32)]), .bool false] st0) = true := by kernel_rfl
end KK
end Den
