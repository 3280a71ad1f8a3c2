/- Runs of IterHolds. -/
import Derived.Test.YtlldjadlhgonbaaGreatTabN0
import Derived.Test.YtlldjadlhgonbaaGreatDenK
import Derived.KernelRfl
set_option maxRecDepth 100000
namespace Den
open Go
namespace KK
theorem run_IterHolds_0_1t31_t : good (callK kt (natF 182 257) 100000 1000 3 [.int .i64 (.l (-9223372036854775808) [(19023204826012975103, 32)]), .int .i64 (.l (-9223372036854775807) [(110680464442257309726, 1), (92810181120851181567, 32)]), .bool true] st0) = true := by kernel_rfl
theorem run_IterHolds_1t31_1t31_t : good (callK kt (natF 182 257) 100000 1000 3 [.int .i64 (.l (-9223372036854775807) [(36893488147419103262, 1), (19023204826012975103, 32)]), .int .i64 (.l (-9223372036854775807) [(110680464442257309726, 1), (92810181120851181567, 32)]), .bool true] st0) = true := by kernel_rfl
end KK
end Den
