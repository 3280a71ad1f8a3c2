/- Runs of IterHolds. -/
import Derived.Test.YtlldjadlhgonbaaGreatTabN0
import Derived.Test.YtlldjadlhgonbaaGreatDenK
import Derived.KernelRfl
set_option maxRecDepth 100000
namespace Den
open Go
namespace KK
theorem run_IterHolds_1t24_24_f : good (callK kt (natF 182 257) 100000 1000 3 [.int .i64 (.l (-9223372036854775807) [(36893488147419103255, 1), (19023204826012975103, 32)]), .int .i64 (.l (-9223372036854775784) [(92810181120851181567, 32)]), .bool false] st0) = true := by kernel_rfl
theorem run_IterHolds_25t31_24_f : good (callK kt (natF 182 257) 100000 1000 3 [.int .i64 (.l (-9223372036854775783) [(36893488147419103238, 1), (19023204826012975103, 32)]), .int .i64 (.l (-9223372036854775784) [(92810181120851181567, 32)]), .bool false] st0) = true := by kernel_rfl
theorem run_IterHolds_0_25_f : good (callK kt (natF 182 257) 100000 1000 3 [.int .i64 (.l (-9223372036854775808) [(19023204826012975103, 32)]), .int .i64 (.l (-9223372036854775783) [(92810181120851181567, 32)]), .bool false] st0) = true := by kernel_rfl
theorem run_IterHolds_1t25_25_f : good (callK kt (natF 182 257) 100000 1000 3 [.int .i64 (.l (-9223372036854775807) [(36893488147419103256, 1), (19023204826012975103, 32)]), .int .i64 (.l (-9223372036854775783) [(92810181120851181567, 32)]), .bool false] st0) = true := by kernel_rfl
theorem run_IterHolds_26t31_25_f : good (callK kt (natF 182 257) 100000 1000 3 [.int .i64 (.l (-9223372036854775782) [(36893488147419103237, 1), (19023204826012975103, 32)]), .int .i64 (.l (-9223372036854775783) [(92810181120851181567, 32)]), .bool false] st0) = true := by kernel_rfl
theorem run_IterHolds_0_26_f : good (callK kt (natF 182 257) 100000 1000 3 [.int .i64 (.l (-9223372036854775808) [(19023204826012975103, 32)]), .int .i64 (.l (-9223372036854775782) [(92810181120851181567, 32)]), .bool false] st0) = true := by kernel_rfl
theorem run_IterHolds_1t26_26_f : good (callK kt (natF 182 257) 100000 1000 3 [.int .i64 (.l (-9223372036854775807) [(36893488147419103257, 1), (19023204826012975103, 32)]), .int .i64 (.l (-9223372036854775782) [(92810181120851181567, 32)]), .bool false] st0) = true := by kernel_rfl
theorem run_IterHolds_27t31_26_f : good (callK kt (natF 182 257) 100000 1000 3 [.int .i64 (.l (-9223372036854775781) [(36893488147419103236, 1), (19023204826012975103, 32)]), .int .i64 (.l (-9223372036854775782) [(92810181120851181567, 32)]), .bool false] st0) = true := by kernel_rfl
theorem run_IterHolds_0_27_f : good (callK kt (natF 182 257) 100000 1000 3 [.int .i64 (.l (-9223372036854775808) [(19023204826012975103, 32)]), .int .i64 (.l (-9223372036854775781) [(92810181120851181567, 32)]), .bool false] st0) = true := by kernel_rfl
theorem run_IterHolds_1t27_27_f : good (callK kt (natF 182 257) 100000 1000 3 [.int .i64 (.l (-9223372036854775807) [(36893488147419103258, 1), (19023204826012975103, 32)]), .int .i64 (.l (-9223372036854775781) [(92810181120851181567, 32)]), .bool false] st0) = true := by kernel_rfl
theorem run_IterHolds_28t31_27_f : good (callK kt (natF 182 257) 100000 1000 3 [.int .i64 (.l (-9223372036854775780) [(36893488147419103235, 1), (19023204826012975103, 32)]), .int .i64 (.l (-9223372036854775781) [(92810181120851181567, 32)]), .bool false] st0) = true := by kernel_rfl
theorem run_IterHolds_0_28_f : good (callK kt (natF 182 257) 100000 1000 3 [.int .i64 (.l (-9223372036854775808) [(19023204826012975103, 32)]), .int .i64 (.l (-9223372036854775780) [(92810181120851181567, 32)]), .bool false] st0) = true := by kernel_rfl
end KK
end Den
