/- Runs of IterHolds. -/
import Derived.Test.YtlldjadlhgonbaaGreatTabN0
import Derived.Test.YtlldjadlhgonbaaGreatDenK
import Derived.KernelRfl
set_option maxRecDepth 100000
namespace Den
open Go
namespace KK
theorem run_IterHolds_1t16_16_f : good (callK kt (natF 182 257) 100000 1000 3 [.int .i64 (.l (-9223372036854775807) [(36893488147419103247, 1), (19023204826012975103, 32)]), .int .i64 (.l (-9223372036854775792) [(92810181120851181567, 32)]), .bool false] st0) = true := by kernel_rfl
theorem run_IterHolds_17t31_16_f : good (callK kt (natF 182 257) 100000 1000 3 [.int .i64 (.l (-9223372036854775791) [(36893488147419103246, 1), (19023204826012975103, 32)]), .int .i64 (.l (-9223372036854775792) [(92810181120851181567, 32)]), .bool false] st0) = true := by kernel_rfl
theorem run_IterHolds_0_17_f : good (callK kt (natF 182 257) 100000 1000 3 [.int .i64 (.l (-9223372036854775808) [(19023204826012975103, 32)]), .int .i64 (.l (-9223372036854775791) [(92810181120851181567, 32)]), .bool false] st0) = true := by kernel_rfl
theorem run_IterHolds_1t17_17_f : good (callK kt (natF 182 257) 100000 1000 3 [.int .i64 (.l (-9223372036854775807) [(36893488147419103248, 1), (19023204826012975103, 32)]), .int .i64 (.l (-9223372036854775791) [(92810181120851181567, 32)]), .bool false] st0) = true := by kernel_rfl
theorem run_IterHolds_18t31_17_f : good (callK kt (natF 182 257) 100000 1000 3 [.int .i64 (.l (-9223372036854775790) [(36893488147419103245, 1), (19023204826012975103, 32)]), .int .i64 (.l (-9223372036854775791) [(92810181120851181567, 32)]), .bool false] st0) = true := by kernel_rfl
theorem run_IterHolds_0_18_f : good (callK kt (natF 182 257) 100000 1000 3 [.int .i64 (.l (-9223372036854775808) [(19023204826012975103, 32)]), .int .i64 (.l (-9223372036854775790) [(92810181120851181567, 32)]), .bool false] st0) = true := by kernel_rfl
theorem run_IterHolds_1t18_18_f : good (callK kt (natF 182 257) 100000 1000 3 [.int .i64 (.l (-9223372036854775807) [(36893488147419103249, 1), (19023204826012975103, 32)]), .int .i64 (.l (-9223372036854775790) [(92810181120851181567, 32)]), .bool false] st0) = true := by kernel_rfl
theorem run_IterHolds_19t31_18_f : good (callK kt (natF 182 257) 100000 1000 3 [.int .i64 (.l (-9223372036854775789) [(36893488147419103244, 1), (19023204826012975103, 32)]), .int .i64 (.l (-9223372036854775790) [(92810181120851181567, 32)]), .bool false] st0) = true := by kernel_rfl
theorem run_IterHolds_0_19_f : good (callK kt (natF 182 257) 100000 1000 3 [.int .i64 (.l (-9223372036854775808) [(19023204826012975103, 32)]), .int .i64 (.l (-9223372036854775789) [(92810181120851181567, 32)]), .bool false] st0) = true := by kernel_rfl
theorem run_IterHolds_1t19_19_f : good (callK kt (natF 182 257) 100000 1000 3 [.int .i64 (.l (-9223372036854775807) [(36893488147419103250, 1), (19023204826012975103, 32)]), .int .i64 (.l (-9223372036854775789) [(92810181120851181567, 32)]), .bool false] st0) = true := by kernel_rfl
theorem run_IterHolds_20t31_19_f : good (callK kt (natF 182 257) 100000 1000 3 [.int .i64 (.l (-9223372036854775788) [(36893488147419103243, 1), (19023204826012975103, 32)]), .int .i64 (.l (-9223372036854775789) [(92810181120851181567, 32)]), .bool false] st0) = true := by kernel_rfl
theorem run_IterHolds_0_20_f : good (callK kt (natF 182 257) 100000 1000 3 [.int .i64 (.l (-9223372036854775808) [(19023204826012975103, 32)]), .int .i64 (.l (-9223372036854775788) [(92810181120851181567, 32)]), .bool false] st0) = true := by kernel_rfl
end KK
end Den
