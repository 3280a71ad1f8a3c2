/- Runs of IterHolds. -/
import Derived.Test.YtlldjadlhgonbaaGreatTabN0
import Derived.Test.YtlldjadlhgonbaaGreatDenK
import Derived.KernelRfl
set_option maxRecDepth 100000
namespace Den
open Go
namespace KK
theorem run_IterHolds_1t28_28_f : good (callK kt (natF 182 257) 100000 1000 3 [.int .i64 (.l (-9223372036854775807) [(36893488147419103259, 1), (19023204826012975103, 32)]), .int .i64 (.l (-9223372036854775780) [(92810181120851181567, 32)]), .bool false] st0) = true := by kernel_rfl
theorem run_IterHolds_29t31_28_f : good (callK kt (natF 182 257) 100000 1000 3 [.int .i64 (.l (-9223372036854775779) [(36893488147419103234, 1), (19023204826012975103, 32)]), .int .i64 (.l (-9223372036854775780) [(92810181120851181567, 32)]), .bool false] st0) = true := by kernel_rfl
theorem run_IterHolds_0_29_f : good (callK kt (natF 182 257) 100000 1000 3 [.int .i64 (.l (-9223372036854775808) [(19023204826012975103, 32)]), .int .i64 (.l (-9223372036854775779) [(92810181120851181567, 32)]), .bool false] st0) = true := by kernel_rfl
theorem run_IterHolds_1t29_29_f : good (callK kt (natF 182 257) 100000 1000 3 [.int .i64 (.l (-9223372036854775807) [(36893488147419103260, 1), (19023204826012975103, 32)]), .int .i64 (.l (-9223372036854775779) [(92810181120851181567, 32)]), .bool false] st0) = true := by kernel_rfl
theorem run_IterHolds_30t31_29_f : good (callK kt (natF 182 257) 100000 1000 3 [.int .i64 (.l (-9223372036854775778) [(36893488147419103233, 1), (19023204826012975103, 32)]), .int .i64 (.l (-9223372036854775779) [(92810181120851181567, 32)]), .bool false] st0) = true := by kernel_rfl
theorem run_IterHolds_0_30_f : good (callK kt (natF 182 257) 100000 1000 3 [.int .i64 (.l (-9223372036854775808) [(19023204826012975103, 32)]), .int .i64 (.l (-9223372036854775778) [(92810181120851181567, 32)]), .bool false] st0) = true := by kernel_rfl
theorem run_IterHolds_1t30_30_f : good (callK kt (natF 182 257) 100000 1000 3 [.int .i64 (.l (-9223372036854775807) [(36893488147419103261, 1), (19023204826012975103, 32)]), .int .i64 (.l (-9223372036854775778) [(92810181120851181567, 32)]), .bool false] st0) = true := by kernel_rfl
theorem run_IterHolds_31_30_f : good (callK kt (natF 182 257) 100000 1000 3 [.int .i64 (.l (-9223372036854775777) [(19023204826012975103, 32)]), .int .i64 (.l (-9223372036854775778) [(92810181120851181567, 32)]), .bool false] st0) = true := by kernel_rfl
theorem run_IterHolds_0_31_f : good (callK kt (natF 182 257) 100000 1000 3 [.int .i64 (.l (-9223372036854775808) [(19023204826012975103, 32)]), .int .i64 (.l (-9223372036854775777) [(92810181120851181567, 32)]), .bool false] st0) = true := by kernel_rfl
theorem run_IterHolds_1t31_31_f : good (callK kt (natF 182 257) 100000 1000 3 [.int .i64 (.l (-9223372036854775807) [(36893488147419103262, 1), (19023204826012975103, 32)]), .int .i64 (.l (-9223372036854775777) [(92810181120851181567, 32)]), .bool false] st0) = true := by kernel_rfl
theorem run_IterHolds_0_0_t : good (callK kt (natF 182 257) 100000 1000 3 [.int .i64 (.l (-9223372036854775808) [(19023204826012975103, 32)]), .int .i64 (.l (-9223372036854775808) [(92810181120851181567, 32)]), .bool true] st0) = true := by kernel_rfl
theorem run_IterHolds_1t31_0_t : good (callK kt (natF 182 257) 100000 1000 3 [.int .i64 (.l (-9223372036854775807) [(36893488147419103262, 1), (19023204826012975103, 32)]), .int .i64 (.l (-9223372036854775808) [(92810181120851181567, 32)]), .bool true] st0) = true := by kernel_rfl
end KK
end Den
