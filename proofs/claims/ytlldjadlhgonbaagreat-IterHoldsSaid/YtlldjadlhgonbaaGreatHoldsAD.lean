/- Runs of IterHolds. -/
import Derived.Test.YtlldjadlhgonbaaGreatTabN0
import Derived.Test.YtlldjadlhgonbaaGreatDenK
import Derived.KernelRfl
set_option maxRecDepth 100000
namespace Den
open Go
namespace KK
theorem run_IterHolds_1t12_12_f : good (callK kt (natF 182 257) 100000 1000 3 [.int .i64 (.l (-9223372036854775807) [(36893488147419103243, 1), (19023204826012975103, 32)]), .int .i64 (.l (-9223372036854775796) [(92810181120851181567, 32)]), .bool false] st0) = true := by kernel_rfl
theorem run_IterHolds_13t31_12_f : good (callK kt (natF 182 257) 100000 1000 3 [.int .i64 (.l (-9223372036854775795) [(36893488147419103250, 1), (19023204826012975103, 32)]), .int .i64 (.l (-9223372036854775796) [(92810181120851181567, 32)]), .bool false] st0) = true := by kernel_rfl
theorem run_IterHolds_0_13_f : good (callK kt (natF 182 257) 100000 1000 3 [.int .i64 (.l (-9223372036854775808) [(19023204826012975103, 32)]), .int .i64 (.l (-9223372036854775795) [(92810181120851181567, 32)]), .bool false] st0) = true := by kernel_rfl
theorem run_IterHolds_1t13_13_f : good (callK kt (natF 182 257) 100000 1000 3 [.int .i64 (.l (-9223372036854775807) [(36893488147419103244, 1), (19023204826012975103, 32)]), .int .i64 (.l (-9223372036854775795) [(92810181120851181567, 32)]), .bool false] st0) = true := by kernel_rfl
theorem run_IterHolds_14t31_13_f : good (callK kt (natF 182 257) 100000 1000 3 [.int .i64 (.l (-9223372036854775794) [(36893488147419103249, 1), (19023204826012975103, 32)]), .int .i64 (.l (-9223372036854775795) [(92810181120851181567, 32)]), .bool false] st0) = true := by kernel_rfl
theorem run_IterHolds_0_14_f : good (callK kt (natF 182 257) 100000 1000 3 [.int .i64 (.l (-9223372036854775808) [(19023204826012975103, 32)]), .int .i64 (.l (-9223372036854775794) [(92810181120851181567, 32)]), .bool false] st0) = true := by kernel_rfl
theorem run_IterHolds_1t14_14_f : good (callK kt (natF 182 257) 100000 1000 3 [.int .i64 (.l (-9223372036854775807) [(36893488147419103245, 1), (19023204826012975103, 32)]), .int .i64 (.l (-9223372036854775794) [(92810181120851181567, 32)]), .bool false] st0) = true := by kernel_rfl
theorem run_IterHolds_15t31_14_f : good (callK kt (natF 182 257) 100000 1000 3 [.int .i64 (.l (-9223372036854775793) [(36893488147419103248, 1), (19023204826012975103, 32)]), .int .i64 (.l (-9223372036854775794) [(92810181120851181567, 32)]), .bool false] st0) = true := by kernel_rfl
theorem run_IterHolds_0_15_f : good (callK kt (natF 182 257) 100000 1000 3 [.int .i64 (.l (-9223372036854775808) [(19023204826012975103, 32)]), .int .i64 (.l (-9223372036854775793) [(92810181120851181567, 32)]), .bool false] st0) = true := by kernel_rfl
theorem run_IterHolds_1t15_15_f : good (callK kt (natF 182 257) 100000 1000 3 [.int .i64 (.l (-9223372036854775807) [(36893488147419103246, 1), (19023204826012975103, 32)]), .int .i64 (.l (-9223372036854775793) [(92810181120851181567, 32)]), .bool false] st0) = true := by kernel_rfl
theorem run_IterHolds_16t31_15_f : good (callK kt (natF 182 257) 100000 1000 3 [.int .i64 (.l (-9223372036854775792) [(36893488147419103247, 1), (19023204826012975103, 32)]), .int .i64 (.l (-9223372036854775793) [(92810181120851181567, 32)]), .bool false] st0) = true := by kernel_rfl
theorem run_IterHolds_0_16_f : good (callK kt (natF 182 257) 100000 1000 3 [.int .i64 (.l (-9223372036854775808) [(19023204826012975103, 32)]), .int .i64 (.l (-9223372036854775792) [(92810181120851181567, 32)]), .bool false] st0) = true := by kernel_rfl
end KK
end Den
