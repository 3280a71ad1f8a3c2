/-
  Proved: for every input wimplelaw24.IterHolds returns true, and its arguments read behind the call as they read before. No condition is added: the arguments are parted into cases, and each case is run by the kernel on an abstract machine that is proved to speak of every run of the model. 
-/
import Derived.Test.YtlldjadlhgonbaaGreatRows
import Derived.Test.YtlldjadlhgonbaaGreatDenVN
import Derived.Test.YtlldjadlhgonbaaGreatHoldsAA
import Derived.Test.YtlldjadlhgonbaaGreatHoldsAB
import Derived.Test.YtlldjadlhgonbaaGreatHoldsAC
import Derived.Test.YtlldjadlhgonbaaGreatHoldsAD
import Derived.Test.YtlldjadlhgonbaaGreatHoldsAE
import Derived.Test.YtlldjadlhgonbaaGreatHoldsAF
import Derived.Test.YtlldjadlhgonbaaGreatHoldsAG
import Derived.Test.YtlldjadlhgonbaaGreatHoldsAH
import Derived.Test.YtlldjadlhgonbaaGreatHoldsAI
import Derived.Test.YtlldjadlhgonbaaGreatHoldsC
import Derived.WalkKit
import Derived.ProofKit
import Derived.OpenShut
namespace Go.Proofs.YtlldjadlhgonbaaGreat.iterHolds
open Go.ChangeShapes Go.WideShapes Go.ChangeAt Go.RowKit
set_option linter.unusedVariables false

theorem own : ownKnob Tryz.prog.godebug = none := by kernel_rfl

set_option maxHeartbeats 0 in
set_option maxRecDepth 100000 in
theorem walk (a0 : Int) (w0 : (Lit.int .i64 a0).wf = true) (a1 : Int) (w1 : (Lit.int .i64 a1).wf = true) (a2 : Bool) (w : World) :
    Calls Tryz.prog 3 #[.int .i64 a0, .int .i64 a1, .bool a2] w fun e w' => e = .returned (.bool true) ∧ Below w.heap.size w w' := by
  obtain ⟨b01, b02⟩ := Den.KK.bound64 w0
  obtain ⟨q1, x1, e0, hx01, hx02, hq01, hq02⟩ : ∃ q x : Int, a0 = x - 9223372036854775808 + 32 * q ∧ 0 ≤ x ∧ x < 32 ∧ 0 ≤ q ∧ q ≤ 576460752303423487 :=
    ⟨(a0 + 9223372036854775808) / 32, (a0 + 9223372036854775808) % 32, by omega, by omega, by omega, by omega, by omega⟩
  obtain ⟨b11, b12⟩ := Den.KK.bound64 w1
  obtain ⟨q5, x5, e1, hx11, hx12, hq11, hq12⟩ : ∃ q x : Int, a1 = x - 9223372036854775808 + 32 * q ∧ 0 ≤ x ∧ x < 32 ∧ 0 ≤ q ∧ q ≤ 576460752303423487 :=
    ⟨(a1 + 9223372036854775808) / 32, (a1 + 9223372036854775808) % 32, by omega, by omega, by omega, by omega, by omega⟩
  cases a2
  refine dite (x5 ≤ 15) (fun hy1_0 => ?_) (fun hy1_0 => ?_)
  refine dite (x5 ≤ 7) (fun hy1_1 => ?_) (fun hy1_1 => ?_)
  refine dite (x5 ≤ 3) (fun hy1_2 => ?_) (fun hy1_2 => ?_)
  refine dite (x5 ≤ 1) (fun hy1_3 => ?_) (fun hy1_3 => ?_)
  refine dite (x5 ≤ 0) (fun hy1_4 => ?_) (fun hy1_4 => ?_)
  refine dite (x1 ≤ 0) (fun hy0_0 => ?_) (fun hy0_0 => ?_)
  refine Den.KK.law_calls (ρ := Den.KK.vlOf [(19023204826012975103, q1), (92810181120851181567, q5)] (by intro p hp; simp at hp; (repeat' (first | (rcases hp with rfl | hp) | (obtain rfl := hp))) <;> exact ⟨by omega, by simp [Den.symHi]; omega⟩)) (rargs := [.int .i64 a0, .int .i64 a1, .bool false]) w Den.KK.run_IterHolds_0_0_f fun G w => ?_
  exact (.cons _ _ _ _ (Den.VR.intE (by simp [Den.SI.val, Den.valT, Den.KK.vlOf]; omega)) (.cons _ _ _ _ (Den.VR.intE (by simp [Den.SI.val, Den.valT, Den.KK.vlOf]; omega)) (.cons _ _ _ _ (.bool _) .nil)))
  refine Den.KK.law_calls (ρ := Den.KK.vlOf [(36893488147419103262, x1 - 1), (19023204826012975103, q1), (92810181120851181567, q5)] (by intro p hp; simp at hp; (repeat' (first | (rcases hp with rfl | hp) | (obtain rfl := hp))) <;> exact ⟨by omega, by simp [Den.symHi]; omega⟩)) (rargs := [.int .i64 a0, .int .i64 a1, .bool false]) w Den.KK.run_IterHolds_1t31_0_f fun G w => ?_
  exact (.cons _ _ _ _ (Den.VR.intE (by simp [Den.SI.val, Den.valT, Den.KK.vlOf]; omega)) (.cons _ _ _ _ (Den.VR.intE (by simp [Den.SI.val, Den.valT, Den.KK.vlOf]; omega)) (.cons _ _ _ _ (.bool _) .nil)))
  refine dite (x1 ≤ 0) (fun hy0_0 => ?_) (fun hy0_0 => ?_)
  refine Den.KK.law_calls (ρ := Den.KK.vlOf [(19023204826012975103, q1), (92810181120851181567, q5)] (by intro p hp; simp at hp; (repeat' (first | (rcases hp with rfl | hp) | (obtain rfl := hp))) <;> exact ⟨by omega, by simp [Den.symHi]; omega⟩)) (rargs := [.int .i64 a0, .int .i64 a1, .bool false]) w Den.KK.run_IterHolds_0_1_f fun G w => ?_
  exact (.cons _ _ _ _ (Den.VR.intE (by simp [Den.SI.val, Den.valT, Den.KK.vlOf]; omega)) (.cons _ _ _ _ (Den.VR.intE (by simp [Den.SI.val, Den.valT, Den.KK.vlOf]; omega)) (.cons _ _ _ _ (.bool _) .nil)))
  refine dite (x1 ≤ 1) (fun hy0_1 => ?_) (fun hy0_1 => ?_)
  refine Den.KK.law_calls (ρ := Den.KK.vlOf [(19023204826012975103, q1), (92810181120851181567, q5)] (by intro p hp; simp at hp; (repeat' (first | (rcases hp with rfl | hp) | (obtain rfl := hp))) <;> exact ⟨by omega, by simp [Den.symHi]; omega⟩)) (rargs := [.int .i64 a0, .int .i64 a1, .bool false]) w Den.KK.run_IterHolds_1_1_f fun G w => ?_
  exact (.cons _ _ _ _ (Den.VR.intE (by simp [Den.SI.val, Den.valT, Den.KK.vlOf]; omega)) (.cons _ _ _ _ (Den.VR.intE (by simp [Den.SI.val, Den.valT, Den.KK.vlOf]; omega)) (.cons _ _ _ _ (.bool _) .nil)))
  refine Den.KK.law_calls (ρ := Den.KK.vlOf [(36893488147419103261, x1 - 2), (19023204826012975103, q1), (92810181120851181567, q5)] (by intro p hp; simp at hp; (repeat' (first | (rcases hp with rfl | hp) | (obtain rfl := hp))) <;> exact ⟨by omega, by simp [Den.symHi]; omega⟩)) (rargs := [.int .i64 a0, .int .i64 a1, .bool false]) w Den.KK.run_IterHolds_2t31_1_f fun G w => ?_
  exact (.cons _ _ _ _ (Den.VR.intE (by simp [Den.SI.val, Den.valT, Den.KK.vlOf]; omega)) (.cons _ _ _ _ (Den.VR.intE (by simp [Den.SI.val, Den.valT, Den.KK.vlOf]; omega)) (.cons _ _ _ _ (.bool _) .nil)))
  refine dite (x5 ≤ 2) (fun hy1_4 => ?_) (fun hy1_4 => ?_)
  refine dite (x1 ≤ 0) (fun hy0_0 => ?_) (fun hy0_0 => ?_)
  refine Den.KK.law_calls (ρ := Den.KK.vlOf [(19023204826012975103, q1), (92810181120851181567, q5)] (by intro p hp; simp at hp; (repeat' (first | (rcases hp with rfl | hp) | (obtain rfl := hp))) <;> exact ⟨by omega, by simp [Den.symHi]; omega⟩)) (rargs := [.int .i64 a0, .int .i64 a1, .bool false]) w Den.KK.run_IterHolds_0_2_f fun G w => ?_
  exact (.cons _ _ _ _ (Den.VR.intE (by simp [Den.SI.val, Den.valT, Den.KK.vlOf]; omega)) (.cons _ _ _ _ (Den.VR.intE (by simp [Den.SI.val, Den.valT, Den.KK.vlOf]; omega)) (.cons _ _ _ _ (.bool _) .nil)))
  refine dite (x1 ≤ 2) (fun hy0_1 => ?_) (fun hy0_1 => ?_)
  refine Den.KK.law_calls (ρ := Den.KK.vlOf [(36893488147419103233, x1 - 1), (19023204826012975103, q1), (92810181120851181567, q5)] (by intro p hp; simp at hp; (repeat' (first | (rcases hp with rfl | hp) | (obtain rfl := hp))) <;> exact ⟨by omega, by simp [Den.symHi]; omega⟩)) (rargs := [.int .i64 a0, .int .i64 a1, .bool false]) w Den.KK.run_IterHolds_1t2_2_f fun G w => ?_
  exact (.cons _ _ _ _ (Den.VR.intE (by simp [Den.SI.val, Den.valT, Den.KK.vlOf]; omega)) (.cons _ _ _ _ (Den.VR.intE (by simp [Den.SI.val, Den.valT, Den.KK.vlOf]; omega)) (.cons _ _ _ _ (.bool _) .nil)))
  refine Den.KK.law_calls (ρ := Den.KK.vlOf [(36893488147419103260, x1 - 3), (19023204826012975103, q1), (92810181120851181567, q5)] (by intro p hp; simp at hp; (repeat' (first | (rcases hp with rfl | hp) | (obtain rfl := hp))) <;> exact ⟨by omega, by simp [Den.symHi]; omega⟩)) (rargs := [.int .i64 a0, .int .i64 a1, .bool false]) w Den.KK.run_IterHolds_3t31_2_f fun G w => ?_
  exact (.cons _ _ _ _ (Den.VR.intE (by simp [Den.SI.val, Den.valT, Den.KK.vlOf]; omega)) (.cons _ _ _ _ (Den.VR.intE (by simp [Den.SI.val, Den.valT, Den.KK.vlOf]; omega)) (.cons _ _ _ _ (.bool _) .nil)))
  refine dite (x1 ≤ 0) (fun hy0_0 => ?_) (fun hy0_0 => ?_)
  refine Den.KK.law_calls (ρ := Den.KK.vlOf [(19023204826012975103, q1), (92810181120851181567, q5)] (by intro p hp; simp at hp; (repeat' (first | (rcases hp with rfl | hp) | (obtain rfl := hp))) <;> exact ⟨by omega, by simp [Den.symHi]; omega⟩)) (rargs := [.int .i64 a0, .int .i64 a1, .bool false]) w Den.KK.run_IterHolds_0_3_f fun G w => ?_
  exact (.cons _ _ _ _ (Den.VR.intE (by simp [Den.SI.val, Den.valT, Den.KK.vlOf]; omega)) (.cons _ _ _ _ (Den.VR.intE (by simp [Den.SI.val, Den.valT, Den.KK.vlOf]; omega)) (.cons _ _ _ _ (.bool _) .nil)))
  refine dite (x1 ≤ 3) (fun hy0_1 => ?_) (fun hy0_1 => ?_)
  refine Den.KK.law_calls (ρ := Den.KK.vlOf [(36893488147419103234, x1 - 1), (19023204826012975103, q1), (92810181120851181567, q5)] (by intro p hp; simp at hp; (repeat' (first | (rcases hp with rfl | hp) | (obtain rfl := hp))) <;> exact ⟨by omega, by simp [Den.symHi]; omega⟩)) (rargs := [.int .i64 a0, .int .i64 a1, .bool false]) w Den.KK.run_IterHolds_1t3_3_f fun G w => ?_
  exact (.cons _ _ _ _ (Den.VR.intE (by simp [Den.SI.val, Den.valT, Den.KK.vlOf]; omega)) (.cons _ _ _ _ (Den.VR.intE (by simp [Den.SI.val, Den.valT, Den.KK.vlOf]; omega)) (.cons _ _ _ _ (.bool _) .nil)))
  refine Den.KK.law_calls (ρ := Den.KK.vlOf [(36893488147419103259, x1 - 4), (19023204826012975103, q1), (92810181120851181567, q5)] (by intro p hp; simp at hp; (repeat' (first | (rcases hp with rfl | hp) | (obtain rfl := hp))) <;> exact ⟨by omega, by simp [Den.symHi]; omega⟩)) (rargs := [.int .i64 a0, .int .i64 a1, .bool false]) w Den.KK.run_IterHolds_4t31_3_f fun G w => ?_
  exact (.cons _ _ _ _ (Den.VR.intE (by simp [Den.SI.val, Den.valT, Den.KK.vlOf]; omega)) (.cons _ _ _ _ (Den.VR.intE (by simp [Den.SI.val, Den.valT, Den.KK.vlOf]; omega)) (.cons _ _ _ _ (.bool _) .nil)))
  refine dite (x5 ≤ 5) (fun hy1_3 => ?_) (fun hy1_3 => ?_)
  refine dite (x5 ≤ 4) (fun hy1_4 => ?_) (fun hy1_4 => ?_)
  refine dite (x1 ≤ 0) (fun hy0_0 => ?_) (fun hy0_0 => ?_)
  refine Den.KK.law_calls (ρ := Den.KK.vlOf [(19023204826012975103, q1), (92810181120851181567, q5)] (by intro p hp; simp at hp; (repeat' (first | (rcases hp with rfl | hp) | (obtain rfl := hp))) <;> exact ⟨by omega, by simp [Den.symHi]; omega⟩)) (rargs := [.int .i64 a0, .int .i64 a1, .bool false]) w Den.KK.run_IterHolds_0_4_f fun G w => ?_
  exact (.cons _ _ _ _ (Den.VR.intE (by simp [Den.SI.val, Den.valT, Den.KK.vlOf]; omega)) (.cons _ _ _ _ (Den.VR.intE (by simp [Den.SI.val, Den.valT, Den.KK.vlOf]; omega)) (.cons _ _ _ _ (.bool _) .nil)))
  refine dite (x1 ≤ 4) (fun hy0_1 => ?_) (fun hy0_1 => ?_)
  refine Den.KK.law_calls (ρ := Den.KK.vlOf [(36893488147419103235, x1 - 1), (19023204826012975103, q1), (92810181120851181567, q5)] (by intro p hp; simp at hp; (repeat' (first | (rcases hp with rfl | hp) | (obtain rfl := hp))) <;> exact ⟨by omega, by simp [Den.symHi]; omega⟩)) (rargs := [.int .i64 a0, .int .i64 a1, .bool false]) w Den.KK.run_IterHolds_1t4_4_f fun G w => ?_
  exact (.cons _ _ _ _ (Den.VR.intE (by simp [Den.SI.val, Den.valT, Den.KK.vlOf]; omega)) (.cons _ _ _ _ (Den.VR.intE (by simp [Den.SI.val, Den.valT, Den.KK.vlOf]; omega)) (.cons _ _ _ _ (.bool _) .nil)))
  refine Den.KK.law_calls (ρ := Den.KK.vlOf [(36893488147419103258, x1 - 5), (19023204826012975103, q1), (92810181120851181567, q5)] (by intro p hp; simp at hp; (repeat' (first | (rcases hp with rfl | hp) | (obtain rfl := hp))) <;> exact ⟨by omega, by simp [Den.symHi]; omega⟩)) (rargs := [.int .i64 a0, .int .i64 a1, .bool false]) w Den.KK.run_IterHolds_5t31_4_f fun G w => ?_
  exact (.cons _ _ _ _ (Den.VR.intE (by simp [Den.SI.val, Den.valT, Den.KK.vlOf]; omega)) (.cons _ _ _ _ (Den.VR.intE (by simp [Den.SI.val, Den.valT, Den.KK.vlOf]; omega)) (.cons _ _ _ _ (.bool _) .nil)))
  refine dite (x1 ≤ 0) (fun hy0_0 => ?_) (fun hy0_0 => ?_)
  refine Den.KK.law_calls (ρ := Den.KK.vlOf [(19023204826012975103, q1), (92810181120851181567, q5)] (by intro p hp; simp at hp; (repeat' (first | (rcases hp with rfl | hp) | (obtain rfl := hp))) <;> exact ⟨by omega, by simp [Den.symHi]; omega⟩)) (rargs := [.int .i64 a0, .int .i64 a1, .bool false]) w Den.KK.run_IterHolds_0_5_f fun G w => ?_
  exact (.cons _ _ _ _ (Den.VR.intE (by simp [Den.SI.val, Den.valT, Den.KK.vlOf]; omega)) (.cons _ _ _ _ (Den.VR.intE (by simp [Den.SI.val, Den.valT, Den.KK.vlOf]; omega)) (.cons _ _ _ _ (.bool _) .nil)))
  refine dite (x1 ≤ 5) (fun hy0_1 => ?_) (fun hy0_1 => ?_)
  refine Den.KK.law_calls (ρ := Den.KK.vlOf [(36893488147419103236, x1 - 1), (19023204826012975103, q1), (92810181120851181567, q5)] (by intro p hp; simp at hp; (repeat' (first | (rcases hp with rfl | hp) | (obtain rfl := hp))) <;> exact ⟨by omega, by simp [Den.symHi]; omega⟩)) (rargs := [.int .i64 a0, .int .i64 a1, .bool false]) w Den.KK.run_IterHolds_1t5_5_f fun G w => ?_
  exact (.cons _ _ _ _ (Den.VR.intE (by simp [Den.SI.val, Den.valT, Den.KK.vlOf]; omega)) (.cons _ _ _ _ (Den.VR.intE (by simp [Den.SI.val, Den.valT, Den.KK.vlOf]; omega)) (.cons _ _ _ _ (.bool _) .nil)))
  refine Den.KK.law_calls (ρ := Den.KK.vlOf [(36893488147419103257, x1 - 6), (19023204826012975103, q1), (92810181120851181567, q5)] (by intro p hp; simp at hp; (repeat' (first | (rcases hp with rfl | hp) | (obtain rfl := hp))) <;> exact ⟨by omega, by simp [Den.symHi]; omega⟩)) (rargs := [.int .i64 a0, .int .i64 a1, .bool false]) w Den.KK.run_IterHolds_6t31_5_f fun G w => ?_
  exact (.cons _ _ _ _ (Den.VR.intE (by simp [Den.SI.val, Den.valT, Den.KK.vlOf]; omega)) (.cons _ _ _ _ (Den.VR.intE (by simp [Den.SI.val, Den.valT, Den.KK.vlOf]; omega)) (.cons _ _ _ _ (.bool _) .nil)))
  refine dite (x5 ≤ 6) (fun hy1_4 => ?_) (fun hy1_4 => ?_)
  refine dite (x1 ≤ 0) (fun hy0_0 => ?_) (fun hy0_0 => ?_)
  refine Den.KK.law_calls (ρ := Den.KK.vlOf [(19023204826012975103, q1), (92810181120851181567, q5)] (by intro p hp; simp at hp; (repeat' (first | (rcases hp with rfl | hp) | (obtain rfl := hp))) <;> exact ⟨by omega, by simp [Den.symHi]; omega⟩)) (rargs := [.int .i64 a0, .int .i64 a1, .bool false]) w Den.KK.run_IterHolds_0_6_f fun G w => ?_
  exact (.cons _ _ _ _ (Den.VR.intE (by simp [Den.SI.val, Den.valT, Den.KK.vlOf]; omega)) (.cons _ _ _ _ (Den.VR.intE (by simp [Den.SI.val, Den.valT, Den.KK.vlOf]; omega)) (.cons _ _ _ _ (.bool _) .nil)))
  refine dite (x1 ≤ 6) (fun hy0_1 => ?_) (fun hy0_1 => ?_)
  refine Den.KK.law_calls (ρ := Den.KK.vlOf [(36893488147419103237, x1 - 1), (19023204826012975103, q1), (92810181120851181567, q5)] (by intro p hp; simp at hp; (repeat' (first | (rcases hp with rfl | hp) | (obtain rfl := hp))) <;> exact ⟨by omega, by simp [Den.symHi]; omega⟩)) (rargs := [.int .i64 a0, .int .i64 a1, .bool false]) w Den.KK.run_IterHolds_1t6_6_f fun G w => ?_
  exact (.cons _ _ _ _ (Den.VR.intE (by simp [Den.SI.val, Den.valT, Den.KK.vlOf]; omega)) (.cons _ _ _ _ (Den.VR.intE (by simp [Den.SI.val, Den.valT, Den.KK.vlOf]; omega)) (.cons _ _ _ _ (.bool _) .nil)))
  refine Den.KK.law_calls (ρ := Den.KK.vlOf [(36893488147419103256, x1 - 7), (19023204826012975103, q1), (92810181120851181567, q5)] (by intro p hp; simp at hp; (repeat' (first | (rcases hp with rfl | hp) | (obtain rfl := hp))) <;> exact ⟨by omega, by simp [Den.symHi]; omega⟩)) (rargs := [.int .i64 a0, .int .i64 a1, .bool false]) w Den.KK.run_IterHolds_7t31_6_f fun G w => ?_
  exact (.cons _ _ _ _ (Den.VR.intE (by simp [Den.SI.val, Den.valT, Den.KK.vlOf]; omega)) (.cons _ _ _ _ (Den.VR.intE (by simp [Den.SI.val, Den.valT, Den.KK.vlOf]; omega)) (.cons _ _ _ _ (.bool _) .nil)))
  refine dite (x1 ≤ 0) (fun hy0_0 => ?_) (fun hy0_0 => ?_)
  refine Den.KK.law_calls (ρ := Den.KK.vlOf [(19023204826012975103, q1), (92810181120851181567, q5)] (by intro p hp; simp at hp; (repeat' (first | (rcases hp with rfl | hp) | (obtain rfl := hp))) <;> exact ⟨by omega, by simp [Den.symHi]; omega⟩)) (rargs := [.int .i64 a0, .int .i64 a1, .bool false]) w Den.KK.run_IterHolds_0_7_f fun G w => ?_
  exact (.cons _ _ _ _ (Den.VR.intE (by simp [Den.SI.val, Den.valT, Den.KK.vlOf]; omega)) (.cons _ _ _ _ (Den.VR.intE (by simp [Den.SI.val, Den.valT, Den.KK.vlOf]; omega)) (.cons _ _ _ _ (.bool _) .nil)))
  refine dite (x1 ≤ 7) (fun hy0_1 => ?_) (fun hy0_1 => ?_)
  refine Den.KK.law_calls (ρ := Den.KK.vlOf [(36893488147419103238, x1 - 1), (19023204826012975103, q1), (92810181120851181567, q5)] (by intro p hp; simp at hp; (repeat' (first | (rcases hp with rfl | hp) | (obtain rfl := hp))) <;> exact ⟨by omega, by simp [Den.symHi]; omega⟩)) (rargs := [.int .i64 a0, .int .i64 a1, .bool false]) w Den.KK.run_IterHolds_1t7_7_f fun G w => ?_
  exact (.cons _ _ _ _ (Den.VR.intE (by simp [Den.SI.val, Den.valT, Den.KK.vlOf]; omega)) (.cons _ _ _ _ (Den.VR.intE (by simp [Den.SI.val, Den.valT, Den.KK.vlOf]; omega)) (.cons _ _ _ _ (.bool _) .nil)))
  refine Den.KK.law_calls (ρ := Den.KK.vlOf [(36893488147419103255, x1 - 8), (19023204826012975103, q1), (92810181120851181567, q5)] (by intro p hp; simp at hp; (repeat' (first | (rcases hp with rfl | hp) | (obtain rfl := hp))) <;> exact ⟨by omega, by simp [Den.symHi]; omega⟩)) (rargs := [.int .i64 a0, .int .i64 a1, .bool false]) w Den.KK.run_IterHolds_8t31_7_f fun G w => ?_
  exact (.cons _ _ _ _ (Den.VR.intE (by simp [Den.SI.val, Den.valT, Den.KK.vlOf]; omega)) (.cons _ _ _ _ (Den.VR.intE (by simp [Den.SI.val, Den.valT, Den.KK.vlOf]; omega)) (.cons _ _ _ _ (.bool _) .nil)))
  refine dite (x5 ≤ 11) (fun hy1_2 => ?_) (fun hy1_2 => ?_)
  refine dite (x5 ≤ 9) (fun hy1_3 => ?_) (fun hy1_3 => ?_)
  refine dite (x5 ≤ 8) (fun hy1_4 => ?_) (fun hy1_4 => ?_)
  refine dite (x1 ≤ 0) (fun hy0_0 => ?_) (fun hy0_0 => ?_)
  refine Den.KK.law_calls (ρ := Den.KK.vlOf [(19023204826012975103, q1), (92810181120851181567, q5)] (by intro p hp; simp at hp; (repeat' (first | (rcases hp with rfl | hp) | (obtain rfl := hp))) <;> exact ⟨by omega, by simp [Den.symHi]; omega⟩)) (rargs := [.int .i64 a0, .int .i64 a1, .bool false]) w Den.KK.run_IterHolds_0_8_f fun G w => ?_
  exact (.cons _ _ _ _ (Den.VR.intE (by simp [Den.SI.val, Den.valT, Den.KK.vlOf]; omega)) (.cons _ _ _ _ (Den.VR.intE (by simp [Den.SI.val, Den.valT, Den.KK.vlOf]; omega)) (.cons _ _ _ _ (.bool _) .nil)))
  refine dite (x1 ≤ 8) (fun hy0_1 => ?_) (fun hy0_1 => ?_)
  refine Den.KK.law_calls (ρ := Den.KK.vlOf [(36893488147419103239, x1 - 1), (19023204826012975103, q1), (92810181120851181567, q5)] (by intro p hp; simp at hp; (repeat' (first | (rcases hp with rfl | hp) | (obtain rfl := hp))) <;> exact ⟨by omega, by simp [Den.symHi]; omega⟩)) (rargs := [.int .i64 a0, .int .i64 a1, .bool false]) w Den.KK.run_IterHolds_1t8_8_f fun G w => ?_
  exact (.cons _ _ _ _ (Den.VR.intE (by simp [Den.SI.val, Den.valT, Den.KK.vlOf]; omega)) (.cons _ _ _ _ (Den.VR.intE (by simp [Den.SI.val, Den.valT, Den.KK.vlOf]; omega)) (.cons _ _ _ _ (.bool _) .nil)))
  refine Den.KK.law_calls (ρ := Den.KK.vlOf [(36893488147419103254, x1 - 9), (19023204826012975103, q1), (92810181120851181567, q5)] (by intro p hp; simp at hp; (repeat' (first | (rcases hp with rfl | hp) | (obtain rfl := hp))) <;> exact ⟨by omega, by simp [Den.symHi]; omega⟩)) (rargs := [.int .i64 a0, .int .i64 a1, .bool false]) w Den.KK.run_IterHolds_9t31_8_f fun G w => ?_
  exact (.cons _ _ _ _ (Den.VR.intE (by simp [Den.SI.val, Den.valT, Den.KK.vlOf]; omega)) (.cons _ _ _ _ (Den.VR.intE (by simp [Den.SI.val, Den.valT, Den.KK.vlOf]; omega)) (.cons _ _ _ _ (.bool _) .nil)))
  refine dite (x1 ≤ 0) (fun hy0_0 => ?_) (fun hy0_0 => ?_)
  refine Den.KK.law_calls (ρ := Den.KK.vlOf [(19023204826012975103, q1), (92810181120851181567, q5)] (by intro p hp; simp at hp; (repeat' (first | (rcases hp with rfl | hp) | (obtain rfl := hp))) <;> exact ⟨by omega, by simp [Den.symHi]; omega⟩)) (rargs := [.int .i64 a0, .int .i64 a1, .bool false]) w Den.KK.run_IterHolds_0_9_f fun G w => ?_
  exact (.cons _ _ _ _ (Den.VR.intE (by simp [Den.SI.val, Den.valT, Den.KK.vlOf]; omega)) (.cons _ _ _ _ (Den.VR.intE (by simp [Den.SI.val, Den.valT, Den.KK.vlOf]; omega)) (.cons _ _ _ _ (.bool _) .nil)))
  refine dite (x1 ≤ 9) (fun hy0_1 => ?_) (fun hy0_1 => ?_)
  refine Den.KK.law_calls (ρ := Den.KK.vlOf [(36893488147419103240, x1 - 1), (19023204826012975103, q1), (92810181120851181567, q5)] (by intro p hp; simp at hp; (repeat' (first | (rcases hp with rfl | hp) | (obtain rfl := hp))) <;> exact ⟨by omega, by simp [Den.symHi]; omega⟩)) (rargs := [.int .i64 a0, .int .i64 a1, .bool false]) w Den.KK.run_IterHolds_1t9_9_f fun G w => ?_
  exact (.cons _ _ _ _ (Den.VR.intE (by simp [Den.SI.val, Den.valT, Den.KK.vlOf]; omega)) (.cons _ _ _ _ (Den.VR.intE (by simp [Den.SI.val, Den.valT, Den.KK.vlOf]; omega)) (.cons _ _ _ _ (.bool _) .nil)))
  refine Den.KK.law_calls (ρ := Den.KK.vlOf [(36893488147419103253, x1 - 10), (19023204826012975103, q1), (92810181120851181567, q5)] (by intro p hp; simp at hp; (repeat' (first | (rcases hp with rfl | hp) | (obtain rfl := hp))) <;> exact ⟨by omega, by simp [Den.symHi]; omega⟩)) (rargs := [.int .i64 a0, .int .i64 a1, .bool false]) w Den.KK.run_IterHolds_10t31_9_f fun G w => ?_
  exact (.cons _ _ _ _ (Den.VR.intE (by simp [Den.SI.val, Den.valT, Den.KK.vlOf]; omega)) (.cons _ _ _ _ (Den.VR.intE (by simp [Den.SI.val, Den.valT, Den.KK.vlOf]; omega)) (.cons _ _ _ _ (.bool _) .nil)))
  refine dite (x5 ≤ 10) (fun hy1_4 => ?_) (fun hy1_4 => ?_)
  refine dite (x1 ≤ 0) (fun hy0_0 => ?_) (fun hy0_0 => ?_)
  refine Den.KK.law_calls (ρ := Den.KK.vlOf [(19023204826012975103, q1), (92810181120851181567, q5)] (by intro p hp; simp at hp; (repeat' (first | (rcases hp with rfl | hp) | (obtain rfl := hp))) <;> exact ⟨by omega, by simp [Den.symHi]; omega⟩)) (rargs := [.int .i64 a0, .int .i64 a1, .bool false]) w Den.KK.run_IterHolds_0_10_f fun G w => ?_
  exact (.cons _ _ _ _ (Den.VR.intE (by simp [Den.SI.val, Den.valT, Den.KK.vlOf]; omega)) (.cons _ _ _ _ (Den.VR.intE (by simp [Den.SI.val, Den.valT, Den.KK.vlOf]; omega)) (.cons _ _ _ _ (.bool _) .nil)))
  refine dite (x1 ≤ 10) (fun hy0_1 => ?_) (fun hy0_1 => ?_)
  refine Den.KK.law_calls (ρ := Den.KK.vlOf [(36893488147419103241, x1 - 1), (19023204826012975103, q1), (92810181120851181567, q5)] (by intro p hp; simp at hp; (repeat' (first | (rcases hp with rfl | hp) | (obtain rfl := hp))) <;> exact ⟨by omega, by simp [Den.symHi]; omega⟩)) (rargs := [.int .i64 a0, .int .i64 a1, .bool false]) w Den.KK.run_IterHolds_1t10_10_f fun G w => ?_
  exact (.cons _ _ _ _ (Den.VR.intE (by simp [Den.SI.val, Den.valT, Den.KK.vlOf]; omega)) (.cons _ _ _ _ (Den.VR.intE (by simp [Den.SI.val, Den.valT, Den.KK.vlOf]; omega)) (.cons _ _ _ _ (.bool _) .nil)))
  refine Den.KK.law_calls (ρ := Den.KK.vlOf [(36893488147419103252, x1 - 11), (19023204826012975103, q1), (92810181120851181567, q5)] (by intro p hp; simp at hp; (repeat' (first | (rcases hp with rfl | hp) | (obtain rfl := hp))) <;> exact ⟨by omega, by simp [Den.symHi]; omega⟩)) (rargs := [.int .i64 a0, .int .i64 a1, .bool false]) w Den.KK.run_IterHolds_11t31_10_f fun G w => ?_
  exact (.cons _ _ _ _ (Den.VR.intE (by simp [Den.SI.val, Den.valT, Den.KK.vlOf]; omega)) (.cons _ _ _ _ (Den.VR.intE (by simp [Den.SI.val, Den.valT, Den.KK.vlOf]; omega)) (.cons _ _ _ _ (.bool _) .nil)))
  refine dite (x1 ≤ 0) (fun hy0_0 => ?_) (fun hy0_0 => ?_)
  refine Den.KK.law_calls (ρ := Den.KK.vlOf [(19023204826012975103, q1), (92810181120851181567, q5)] (by intro p hp; simp at hp; (repeat' (first | (rcases hp with rfl | hp) | (obtain rfl := hp))) <;> exact ⟨by omega, by simp [Den.symHi]; omega⟩)) (rargs := [.int .i64 a0, .int .i64 a1, .bool false]) w Den.KK.run_IterHolds_0_11_f fun G w => ?_
  exact (.cons _ _ _ _ (Den.VR.intE (by simp [Den.SI.val, Den.valT, Den.KK.vlOf]; omega)) (.cons _ _ _ _ (Den.VR.intE (by simp [Den.SI.val, Den.valT, Den.KK.vlOf]; omega)) (.cons _ _ _ _ (.bool _) .nil)))
  refine dite (x1 ≤ 11) (fun hy0_1 => ?_) (fun hy0_1 => ?_)
  refine Den.KK.law_calls (ρ := Den.KK.vlOf [(36893488147419103242, x1 - 1), (19023204826012975103, q1), (92810181120851181567, q5)] (by intro p hp; simp at hp; (repeat' (first | (rcases hp with rfl | hp) | (obtain rfl := hp))) <;> exact ⟨by omega, by simp [Den.symHi]; omega⟩)) (rargs := [.int .i64 a0, .int .i64 a1, .bool false]) w Den.KK.run_IterHolds_1t11_11_f fun G w => ?_
  exact (.cons _ _ _ _ (Den.VR.intE (by simp [Den.SI.val, Den.valT, Den.KK.vlOf]; omega)) (.cons _ _ _ _ (Den.VR.intE (by simp [Den.SI.val, Den.valT, Den.KK.vlOf]; omega)) (.cons _ _ _ _ (.bool _) .nil)))
  refine Den.KK.law_calls (ρ := Den.KK.vlOf [(36893488147419103251, x1 - 12), (19023204826012975103, q1), (92810181120851181567, q5)] (by intro p hp; simp at hp; (repeat' (first | (rcases hp with rfl | hp) | (obtain rfl := hp))) <;> exact ⟨by omega, by simp [Den.symHi]; omega⟩)) (rargs := [.int .i64 a0, .int .i64 a1, .bool false]) w Den.KK.run_IterHolds_12t31_11_f fun G w => ?_
  exact (.cons _ _ _ _ (Den.VR.intE (by simp [Den.SI.val, Den.valT, Den.KK.vlOf]; omega)) (.cons _ _ _ _ (Den.VR.intE (by simp [Den.SI.val, Den.valT, Den.KK.vlOf]; omega)) (.cons _ _ _ _ (.bool _) .nil)))
  refine dite (x5 ≤ 13) (fun hy1_3 => ?_) (fun hy1_3 => ?_)
  refine dite (x5 ≤ 12) (fun hy1_4 => ?_) (fun hy1_4 => ?_)
  refine dite (x1 ≤ 0) (fun hy0_0 => ?_) (fun hy0_0 => ?_)
  refine Den.KK.law_calls (ρ := Den.KK.vlOf [(19023204826012975103, q1), (92810181120851181567, q5)] (by intro p hp; simp at hp; (repeat' (first | (rcases hp with rfl | hp) | (obtain rfl := hp))) <;> exact ⟨by omega, by simp [Den.symHi]; omega⟩)) (rargs := [.int .i64 a0, .int .i64 a1, .bool false]) w Den.KK.run_IterHolds_0_12_f fun G w => ?_
  exact (.cons _ _ _ _ (Den.VR.intE (by simp [Den.SI.val, Den.valT, Den.KK.vlOf]; omega)) (.cons _ _ _ _ (Den.VR.intE (by simp [Den.SI.val, Den.valT, Den.KK.vlOf]; omega)) (.cons _ _ _ _ (.bool _) .nil)))
  refine dite (x1 ≤ 12) (fun hy0_1 => ?_) (fun hy0_1 => ?_)
  refine Den.KK.law_calls (ρ := Den.KK.vlOf [(36893488147419103243, x1 - 1), (19023204826012975103, q1), (92810181120851181567, q5)] (by intro p hp; simp at hp; (repeat' (first | (rcases hp with rfl | hp) | (obtain rfl := hp))) <;> exact ⟨by omega, by simp [Den.symHi]; omega⟩)) (rargs := [.int .i64 a0, .int .i64 a1, .bool false]) w Den.KK.run_IterHolds_1t12_12_f fun G w => ?_
  exact (.cons _ _ _ _ (Den.VR.intE (by simp [Den.SI.val, Den.valT, Den.KK.vlOf]; omega)) (.cons _ _ _ _ (Den.VR.intE (by simp [Den.SI.val, Den.valT, Den.KK.vlOf]; omega)) (.cons _ _ _ _ (.bool _) .nil)))
  refine Den.KK.law_calls (ρ := Den.KK.vlOf [(36893488147419103250, x1 - 13), (19023204826012975103, q1), (92810181120851181567, q5)] (by intro p hp; simp at hp; (repeat' (first | (rcases hp with rfl | hp) | (obtain rfl := hp))) <;> exact ⟨by omega, by simp [Den.symHi]; omega⟩)) (rargs := [.int .i64 a0, .int .i64 a1, .bool false]) w Den.KK.run_IterHolds_13t31_12_f fun G w => ?_
  exact (.cons _ _ _ _ (Den.VR.intE (by simp [Den.SI.val, Den.valT, Den.KK.vlOf]; omega)) (.cons _ _ _ _ (Den.VR.intE (by simp [Den.SI.val, Den.valT, Den.KK.vlOf]; omega)) (.cons _ _ _ _ (.bool _) .nil)))
  refine dite (x1 ≤ 0) (fun hy0_0 => ?_) (fun hy0_0 => ?_)
  refine Den.KK.law_calls (ρ := Den.KK.vlOf [(19023204826012975103, q1), (92810181120851181567, q5)] (by intro p hp; simp at hp; (repeat' (first | (rcases hp with rfl | hp) | (obtain rfl := hp))) <;> exact ⟨by omega, by simp [Den.symHi]; omega⟩)) (rargs := [.int .i64 a0, .int .i64 a1, .bool false]) w Den.KK.run_IterHolds_0_13_f fun G w => ?_
  exact (.cons _ _ _ _ (Den.VR.intE (by simp [Den.SI.val, Den.valT, Den.KK.vlOf]; omega)) (.cons _ _ _ _ (Den.VR.intE (by simp [Den.SI.val, Den.valT, Den.KK.vlOf]; omega)) (.cons _ _ _ _ (.bool _) .nil)))
  refine dite (x1 ≤ 13) (fun hy0_1 => ?_) (fun hy0_1 => ?_)
  refine Den.KK.law_calls (ρ := Den.KK.vlOf [(36893488147419103244, x1 - 1), (19023204826012975103, q1), (92810181120851181567, q5)] (by intro p hp; simp at hp; (repeat' (first | (rcases hp with rfl | hp) | (obtain rfl := hp))) <;> exact ⟨by omega, by simp [Den.symHi]; omega⟩)) (rargs := [.int .i64 a0, .int .i64 a1, .bool false]) w Den.KK.run_IterHolds_1t13_13_f fun G w => ?_
  exact (.cons _ _ _ _ (Den.VR.intE (by simp [Den.SI.val, Den.valT, Den.KK.vlOf]; omega)) (.cons _ _ _ _ (Den.VR.intE (by simp [Den.SI.val, Den.valT, Den.KK.vlOf]; omega)) (.cons _ _ _ _ (.bool _) .nil)))
  refine Den.KK.law_calls (ρ := Den.KK.vlOf [(36893488147419103249, x1 - 14), (19023204826012975103, q1), (92810181120851181567, q5)] (by intro p hp; simp at hp; (repeat' (first | (rcases hp with rfl | hp) | (obtain rfl := hp))) <;> exact ⟨by omega, by simp [Den.symHi]; omega⟩)) (rargs := [.int .i64 a0, .int .i64 a1, .bool false]) w Den.KK.run_IterHolds_14t31_13_f fun G w => ?_
  exact (.cons _ _ _ _ (Den.VR.intE (by simp [Den.SI.val, Den.valT, Den.KK.vlOf]; omega)) (.cons _ _ _ _ (Den.VR.intE (by simp [Den.SI.val, Den.valT, Den.KK.vlOf]; omega)) (.cons _ _ _ _ (.bool _) .nil)))
  refine dite (x5 ≤ 14) (fun hy1_4 => ?_) (fun hy1_4 => ?_)
  refine dite (x1 ≤ 0) (fun hy0_0 => ?_) (fun hy0_0 => ?_)
  refine Den.KK.law_calls (ρ := Den.KK.vlOf [(19023204826012975103, q1), (92810181120851181567, q5)] (by intro p hp; simp at hp; (repeat' (first | (rcases hp with rfl | hp) | (obtain rfl := hp))) <;> exact ⟨by omega, by simp [Den.symHi]; omega⟩)) (rargs := [.int .i64 a0, .int .i64 a1, .bool false]) w Den.KK.run_IterHolds_0_14_f fun G w => ?_
  exact (.cons _ _ _ _ (Den.VR.intE (by simp [Den.SI.val, Den.valT, Den.KK.vlOf]; omega)) (.cons _ _ _ _ (Den.VR.intE (by simp [Den.SI.val, Den.valT, Den.KK.vlOf]; omega)) (.cons _ _ _ _ (.bool _) .nil)))
  refine dite (x1 ≤ 14) (fun hy0_1 => ?_) (fun hy0_1 => ?_)
  refine Den.KK.law_calls (ρ := Den.KK.vlOf [(36893488147419103245, x1 - 1), (19023204826012975103, q1), (92810181120851181567, q5)] (by intro p hp; simp at hp; (repeat' (first | (rcases hp with rfl | hp) | (obtain rfl := hp))) <;> exact ⟨by omega, by simp [Den.symHi]; omega⟩)) (rargs := [.int .i64 a0, .int .i64 a1, .bool false]) w Den.KK.run_IterHolds_1t14_14_f fun G w => ?_
  exact (.cons _ _ _ _ (Den.VR.intE (by simp [Den.SI.val, Den.valT, Den.KK.vlOf]; omega)) (.cons _ _ _ _ (Den.VR.intE (by simp [Den.SI.val, Den.valT, Den.KK.vlOf]; omega)) (.cons _ _ _ _ (.bool _) .nil)))
  refine Den.KK.law_calls (ρ := Den.KK.vlOf [(36893488147419103248, x1 - 15), (19023204826012975103, q1), (92810181120851181567, q5)] (by intro p hp; simp at hp; (repeat' (first | (rcases hp with rfl | hp) | (obtain rfl := hp))) <;> exact ⟨by omega, by simp [Den.symHi]; omega⟩)) (rargs := [.int .i64 a0, .int .i64 a1, .bool false]) w Den.KK.run_IterHolds_15t31_14_f fun G w => ?_
  exact (.cons _ _ _ _ (Den.VR.intE (by simp [Den.SI.val, Den.valT, Den.KK.vlOf]; omega)) (.cons _ _ _ _ (Den.VR.intE (by simp [Den.SI.val, Den.valT, Den.KK.vlOf]; omega)) (.cons _ _ _ _ (.bool _) .nil)))
  refine dite (x1 ≤ 0) (fun hy0_0 => ?_) (fun hy0_0 => ?_)
  refine Den.KK.law_calls (ρ := Den.KK.vlOf [(19023204826012975103, q1), (92810181120851181567, q5)] (by intro p hp; simp at hp; (repeat' (first | (rcases hp with rfl | hp) | (obtain rfl := hp))) <;> exact ⟨by omega, by simp [Den.symHi]; omega⟩)) (rargs := [.int .i64 a0, .int .i64 a1, .bool false]) w Den.KK.run_IterHolds_0_15_f fun G w => ?_
  exact (.cons _ _ _ _ (Den.VR.intE (by simp [Den.SI.val, Den.valT, Den.KK.vlOf]; omega)) (.cons _ _ _ _ (Den.VR.intE (by simp [Den.SI.val, Den.valT, Den.KK.vlOf]; omega)) (.cons _ _ _ _ (.bool _) .nil)))
  refine dite (x1 ≤ 15) (fun hy0_1 => ?_) (fun hy0_1 => ?_)
  refine Den.KK.law_calls (ρ := Den.KK.vlOf [(36893488147419103246, x1 - 1), (19023204826012975103, q1), (92810181120851181567, q5)] (by intro p hp; simp at hp; (repeat' (first | (rcases hp with rfl | hp) | (obtain rfl := hp))) <;> exact ⟨by omega, by simp [Den.symHi]; omega⟩)) (rargs := [.int .i64 a0, .int .i64 a1, .bool false]) w Den.KK.run_IterHolds_1t15_15_f fun G w => ?_
  exact (.cons _ _ _ _ (Den.VR.intE (by simp [Den.SI.val, Den.valT, Den.KK.vlOf]; omega)) (.cons _ _ _ _ (Den.VR.intE (by simp [Den.SI.val, Den.valT, Den.KK.vlOf]; omega)) (.cons _ _ _ _ (.bool _) .nil)))
  refine Den.KK.law_calls (ρ := Den.KK.vlOf [(36893488147419103247, x1 - 16), (19023204826012975103, q1), (92810181120851181567, q5)] (by intro p hp; simp at hp; (repeat' (first | (rcases hp with rfl | hp) | (obtain rfl := hp))) <;> exact ⟨by omega, by simp [Den.symHi]; omega⟩)) (rargs := [.int .i64 a0, .int .i64 a1, .bool false]) w Den.KK.run_IterHolds_16t31_15_f fun G w => ?_
  exact (.cons _ _ _ _ (Den.VR.intE (by simp [Den.SI.val, Den.valT, Den.KK.vlOf]; omega)) (.cons _ _ _ _ (Den.VR.intE (by simp [Den.SI.val, Den.valT, Den.KK.vlOf]; omega)) (.cons _ _ _ _ (.bool _) .nil)))
  refine dite (x5 ≤ 23) (fun hy1_1 => ?_) (fun hy1_1 => ?_)
  refine dite (x5 ≤ 19) (fun hy1_2 => ?_) (fun hy1_2 => ?_)
  refine dite (x5 ≤ 17) (fun hy1_3 => ?_) (fun hy1_3 => ?_)
  refine dite (x5 ≤ 16) (fun hy1_4 => ?_) (fun hy1_4 => ?_)
  refine dite (x1 ≤ 0) (fun hy0_0 => ?_) (fun hy0_0 => ?_)
  refine Den.KK.law_calls (ρ := Den.KK.vlOf [(19023204826012975103, q1), (92810181120851181567, q5)] (by intro p hp; simp at hp; (repeat' (first | (rcases hp with rfl | hp) | (obtain rfl := hp))) <;> exact ⟨by omega, by simp [Den.symHi]; omega⟩)) (rargs := [.int .i64 a0, .int .i64 a1, .bool false]) w Den.KK.run_IterHolds_0_16_f fun G w => ?_
  exact (.cons _ _ _ _ (Den.VR.intE (by simp [Den.SI.val, Den.valT, Den.KK.vlOf]; omega)) (.cons _ _ _ _ (Den.VR.intE (by simp [Den.SI.val, Den.valT, Den.KK.vlOf]; omega)) (.cons _ _ _ _ (.bool _) .nil)))
  refine dite (x1 ≤ 16) (fun hy0_1 => ?_) (fun hy0_1 => ?_)
  refine Den.KK.law_calls (ρ := Den.KK.vlOf [(36893488147419103247, x1 - 1), (19023204826012975103, q1), (92810181120851181567, q5)] (by intro p hp; simp at hp; (repeat' (first | (rcases hp with rfl | hp) | (obtain rfl := hp))) <;> exact ⟨by omega, by simp [Den.symHi]; omega⟩)) (rargs := [.int .i64 a0, .int .i64 a1, .bool false]) w Den.KK.run_IterHolds_1t16_16_f fun G w => ?_
  exact (.cons _ _ _ _ (Den.VR.intE (by simp [Den.SI.val, Den.valT, Den.KK.vlOf]; omega)) (.cons _ _ _ _ (Den.VR.intE (by simp [Den.SI.val, Den.valT, Den.KK.vlOf]; omega)) (.cons _ _ _ _ (.bool _) .nil)))
  refine Den.KK.law_calls (ρ := Den.KK.vlOf [(36893488147419103246, x1 - 17), (19023204826012975103, q1), (92810181120851181567, q5)] (by intro p hp; simp at hp; (repeat' (first | (rcases hp with rfl | hp) | (obtain rfl := hp))) <;> exact ⟨by omega, by simp [Den.symHi]; omega⟩)) (rargs := [.int .i64 a0, .int .i64 a1, .bool false]) w Den.KK.run_IterHolds_17t31_16_f fun G w => ?_
  exact (.cons _ _ _ _ (Den.VR.intE (by simp [Den.SI.val, Den.valT, Den.KK.vlOf]; omega)) (.cons _ _ _ _ (Den.VR.intE (by simp [Den.SI.val, Den.valT, Den.KK.vlOf]; omega)) (.cons _ _ _ _ (.bool _) .nil)))
  refine dite (x1 ≤ 0) (fun hy0_0 => ?_) (fun hy0_0 => ?_)
  refine Den.KK.law_calls (ρ := Den.KK.vlOf [(19023204826012975103, q1), (92810181120851181567, q5)] (by intro p hp; simp at hp; (repeat' (first | (rcases hp with rfl | hp) | (obtain rfl := hp))) <;> exact ⟨by omega, by simp [Den.symHi]; omega⟩)) (rargs := [.int .i64 a0, .int .i64 a1, .bool false]) w Den.KK.run_IterHolds_0_17_f fun G w => ?_
  exact (.cons _ _ _ _ (Den.VR.intE (by simp [Den.SI.val, Den.valT, Den.KK.vlOf]; omega)) (.cons _ _ _ _ (Den.VR.intE (by simp [Den.SI.val, Den.valT, Den.KK.vlOf]; omega)) (.cons _ _ _ _ (.bool _) .nil)))
  refine dite (x1 ≤ 17) (fun hy0_1 => ?_) (fun hy0_1 => ?_)
  refine Den.KK.law_calls (ρ := Den.KK.vlOf [(36893488147419103248, x1 - 1), (19023204826012975103, q1), (92810181120851181567, q5)] (by intro p hp; simp at hp; (repeat' (first | (rcases hp with rfl | hp) | (obtain rfl := hp))) <;> exact ⟨by omega, by simp [Den.symHi]; omega⟩)) (rargs := [.int .i64 a0, .int .i64 a1, .bool false]) w Den.KK.run_IterHolds_1t17_17_f fun G w => ?_
  exact (.cons _ _ _ _ (Den.VR.intE (by simp [Den.SI.val, Den.valT, Den.KK.vlOf]; omega)) (.cons _ _ _ _ (Den.VR.intE (by simp [Den.SI.val, Den.valT, Den.KK.vlOf]; omega)) (.cons _ _ _ _ (.bool _) .nil)))
  refine Den.KK.law_calls (ρ := Den.KK.vlOf [(36893488147419103245, x1 - 18), (19023204826012975103, q1), (92810181120851181567, q5)] (by intro p hp; simp at hp; (repeat' (first | (rcases hp with rfl | hp) | (obtain rfl := hp))) <;> exact ⟨by omega, by simp [Den.symHi]; omega⟩)) (rargs := [.int .i64 a0, .int .i64 a1, .bool false]) w Den.KK.run_IterHolds_18t31_17_f fun G w => ?_
  exact (.cons _ _ _ _ (Den.VR.intE (by simp [Den.SI.val, Den.valT, Den.KK.vlOf]; omega)) (.cons _ _ _ _ (Den.VR.intE (by simp [Den.SI.val, Den.valT, Den.KK.vlOf]; omega)) (.cons _ _ _ _ (.bool _) .nil)))
  refine dite (x5 ≤ 18) (fun hy1_4 => ?_) (fun hy1_4 => ?_)
  refine dite (x1 ≤ 0) (fun hy0_0 => ?_) (fun hy0_0 => ?_)
  refine Den.KK.law_calls (ρ := Den.KK.vlOf [(19023204826012975103, q1), (92810181120851181567, q5)] (by intro p hp; simp at hp; (repeat' (first | (rcases hp with rfl | hp) | (obtain rfl := hp))) <;> exact ⟨by omega, by simp [Den.symHi]; omega⟩)) (rargs := [.int .i64 a0, .int .i64 a1, .bool false]) w Den.KK.run_IterHolds_0_18_f fun G w => ?_
  exact (.cons _ _ _ _ (Den.VR.intE (by simp [Den.SI.val, Den.valT, Den.KK.vlOf]; omega)) (.cons _ _ _ _ (Den.VR.intE (by simp [Den.SI.val, Den.valT, Den.KK.vlOf]; omega)) (.cons _ _ _ _ (.bool _) .nil)))
  refine dite (x1 ≤ 18) (fun hy0_1 => ?_) (fun hy0_1 => ?_)
  refine Den.KK.law_calls (ρ := Den.KK.vlOf [(36893488147419103249, x1 - 1), (19023204826012975103, q1), (92810181120851181567, q5)] (by intro p hp; simp at hp; (repeat' (first | (rcases hp with rfl | hp) | (obtain rfl := hp))) <;> exact ⟨by omega, by simp [Den.symHi]; omega⟩)) (rargs := [.int .i64 a0, .int .i64 a1, .bool false]) w Den.KK.run_IterHolds_1t18_18_f fun G w => ?_
  exact (.cons _ _ _ _ (Den.VR.intE (by simp [Den.SI.val, Den.valT, Den.KK.vlOf]; omega)) (.cons _ _ _ _ (Den.VR.intE (by simp [Den.SI.val, Den.valT, Den.KK.vlOf]; omega)) (.cons _ _ _ _ (.bool _) .nil)))
  refine Den.KK.law_calls (ρ := Den.KK.vlOf [(36893488147419103244, x1 - 19), (19023204826012975103, q1), (92810181120851181567, q5)] (by intro p hp; simp at hp; (repeat' (first | (rcases hp with rfl | hp) | (obtain rfl := hp))) <;> exact ⟨by omega, by simp [Den.symHi]; omega⟩)) (rargs := [.int .i64 a0, .int .i64 a1, .bool false]) w Den.KK.run_IterHolds_19t31_18_f fun G w => ?_
  exact (.cons _ _ _ _ (Den.VR.intE (by simp [Den.SI.val, Den.valT, Den.KK.vlOf]; omega)) (.cons _ _ _ _ (Den.VR.intE (by simp [Den.SI.val, Den.valT, Den.KK.vlOf]; omega)) (.cons _ _ _ _ (.bool _) .nil)))
  refine dite (x1 ≤ 0) (fun hy0_0 => ?_) (fun hy0_0 => ?_)
  refine Den.KK.law_calls (ρ := Den.KK.vlOf [(19023204826012975103, q1), (92810181120851181567, q5)] (by intro p hp; simp at hp; (repeat' (first | (rcases hp with rfl | hp) | (obtain rfl := hp))) <;> exact ⟨by omega, by simp [Den.symHi]; omega⟩)) (rargs := [.int .i64 a0, .int .i64 a1, .bool false]) w Den.KK.run_IterHolds_0_19_f fun G w => ?_
  exact (.cons _ _ _ _ (Den.VR.intE (by simp [Den.SI.val, Den.valT, Den.KK.vlOf]; omega)) (.cons _ _ _ _ (Den.VR.intE (by simp [Den.SI.val, Den.valT, Den.KK.vlOf]; omega)) (.cons _ _ _ _ (.bool _) .nil)))
  refine dite (x1 ≤ 19) (fun hy0_1 => ?_) (fun hy0_1 => ?_)
  refine Den.KK.law_calls (ρ := Den.KK.vlOf [(36893488147419103250, x1 - 1), (19023204826012975103, q1), (92810181120851181567, q5)] (by intro p hp; simp at hp; (repeat' (first | (rcases hp with rfl | hp) | (obtain rfl := hp))) <;> exact ⟨by omega, by simp [Den.symHi]; omega⟩)) (rargs := [.int .i64 a0, .int .i64 a1, .bool false]) w Den.KK.run_IterHolds_1t19_19_f fun G w => ?_
  exact (.cons _ _ _ _ (Den.VR.intE (by simp [Den.SI.val, Den.valT, Den.KK.vlOf]; omega)) (.cons _ _ _ _ (Den.VR.intE (by simp [Den.SI.val, Den.valT, Den.KK.vlOf]; omega)) (.cons _ _ _ _ (.bool _) .nil)))
  refine Den.KK.law_calls (ρ := Den.KK.vlOf [(36893488147419103243, x1 - 20), (19023204826012975103, q1), (92810181120851181567, q5)] (by intro p hp; simp at hp; (repeat' (first | (rcases hp with rfl | hp) | (obtain rfl := hp))) <;> exact ⟨by omega, by simp [Den.symHi]; omega⟩)) (rargs := [.int .i64 a0, .int .i64 a1, .bool false]) w Den.KK.run_IterHolds_20t31_19_f fun G w => ?_
  exact (.cons _ _ _ _ (Den.VR.intE (by simp [Den.SI.val, Den.valT, Den.KK.vlOf]; omega)) (.cons _ _ _ _ (Den.VR.intE (by simp [Den.SI.val, Den.valT, Den.KK.vlOf]; omega)) (.cons _ _ _ _ (.bool _) .nil)))
  refine dite (x5 ≤ 21) (fun hy1_3 => ?_) (fun hy1_3 => ?_)
  refine dite (x5 ≤ 20) (fun hy1_4 => ?_) (fun hy1_4 => ?_)
  refine dite (x1 ≤ 0) (fun hy0_0 => ?_) (fun hy0_0 => ?_)
  refine Den.KK.law_calls (ρ := Den.KK.vlOf [(19023204826012975103, q1), (92810181120851181567, q5)] (by intro p hp; simp at hp; (repeat' (first | (rcases hp with rfl | hp) | (obtain rfl := hp))) <;> exact ⟨by omega, by simp [Den.symHi]; omega⟩)) (rargs := [.int .i64 a0, .int .i64 a1, .bool false]) w Den.KK.run_IterHolds_0_20_f fun G w => ?_
  exact (.cons _ _ _ _ (Den.VR.intE (by simp [Den.SI.val, Den.valT, Den.KK.vlOf]; omega)) (.cons _ _ _ _ (Den.VR.intE (by simp [Den.SI.val, Den.valT, Den.KK.vlOf]; omega)) (.cons _ _ _ _ (.bool _) .nil)))
  refine dite (x1 ≤ 20) (fun hy0_1 => ?_) (fun hy0_1 => ?_)
  refine Den.KK.law_calls (ρ := Den.KK.vlOf [(36893488147419103251, x1 - 1), (19023204826012975103, q1), (92810181120851181567, q5)] (by intro p hp; simp at hp; (repeat' (first | (rcases hp with rfl | hp) | (obtain rfl := hp))) <;> exact ⟨by omega, by simp [Den.symHi]; omega⟩)) (rargs := [.int .i64 a0, .int .i64 a1, .bool false]) w Den.KK.run_IterHolds_1t20_20_f fun G w => ?_
  exact (.cons _ _ _ _ (Den.VR.intE (by simp [Den.SI.val, Den.valT, Den.KK.vlOf]; omega)) (.cons _ _ _ _ (Den.VR.intE (by simp [Den.SI.val, Den.valT, Den.KK.vlOf]; omega)) (.cons _ _ _ _ (.bool _) .nil)))
  refine Den.KK.law_calls (ρ := Den.KK.vlOf [(36893488147419103242, x1 - 21), (19023204826012975103, q1), (92810181120851181567, q5)] (by intro p hp; simp at hp; (repeat' (first | (rcases hp with rfl | hp) | (obtain rfl := hp))) <;> exact ⟨by omega, by simp [Den.symHi]; omega⟩)) (rargs := [.int .i64 a0, .int .i64 a1, .bool false]) w Den.KK.run_IterHolds_21t31_20_f fun G w => ?_
  exact (.cons _ _ _ _ (Den.VR.intE (by simp [Den.SI.val, Den.valT, Den.KK.vlOf]; omega)) (.cons _ _ _ _ (Den.VR.intE (by simp [Den.SI.val, Den.valT, Den.KK.vlOf]; omega)) (.cons _ _ _ _ (.bool _) .nil)))
  refine dite (x1 ≤ 0) (fun hy0_0 => ?_) (fun hy0_0 => ?_)
  refine Den.KK.law_calls (ρ := Den.KK.vlOf [(19023204826012975103, q1), (92810181120851181567, q5)] (by intro p hp; simp at hp; (repeat' (first | (rcases hp with rfl | hp) | (obtain rfl := hp))) <;> exact ⟨by omega, by simp [Den.symHi]; omega⟩)) (rargs := [.int .i64 a0, .int .i64 a1, .bool false]) w Den.KK.run_IterHolds_0_21_f fun G w => ?_
  exact (.cons _ _ _ _ (Den.VR.intE (by simp [Den.SI.val, Den.valT, Den.KK.vlOf]; omega)) (.cons _ _ _ _ (Den.VR.intE (by simp [Den.SI.val, Den.valT, Den.KK.vlOf]; omega)) (.cons _ _ _ _ (.bool _) .nil)))
  refine dite (x1 ≤ 21) (fun hy0_1 => ?_) (fun hy0_1 => ?_)
  refine Den.KK.law_calls (ρ := Den.KK.vlOf [(36893488147419103252, x1 - 1), (19023204826012975103, q1), (92810181120851181567, q5)] (by intro p hp; simp at hp; (repeat' (first | (rcases hp with rfl | hp) | (obtain rfl := hp))) <;> exact ⟨by omega, by simp [Den.symHi]; omega⟩)) (rargs := [.int .i64 a0, .int .i64 a1, .bool false]) w Den.KK.run_IterHolds_1t21_21_f fun G w => ?_
  exact (.cons _ _ _ _ (Den.VR.intE (by simp [Den.SI.val, Den.valT, Den.KK.vlOf]; omega)) (.cons _ _ _ _ (Den.VR.intE (by simp [Den.SI.val, Den.valT, Den.KK.vlOf]; omega)) (.cons _ _ _ _ (.bool _) .nil)))
  refine Den.KK.law_calls (ρ := Den.KK.vlOf [(36893488147419103241, x1 - 22), (19023204826012975103, q1), (92810181120851181567, q5)] (by intro p hp; simp at hp; (repeat' (first | (rcases hp with rfl | hp) | (obtain rfl := hp))) <;> exact ⟨by omega, by simp [Den.symHi]; omega⟩)) (rargs := [.int .i64 a0, .int .i64 a1, .bool false]) w Den.KK.run_IterHolds_22t31_21_f fun G w => ?_
  exact (.cons _ _ _ _ (Den.VR.intE (by simp [Den.SI.val, Den.valT, Den.KK.vlOf]; omega)) (.cons _ _ _ _ (Den.VR.intE (by simp [Den.SI.val, Den.valT, Den.KK.vlOf]; omega)) (.cons _ _ _ _ (.bool _) .nil)))
  refine dite (x5 ≤ 22) (fun hy1_4 => ?_) (fun hy1_4 => ?_)
  refine dite (x1 ≤ 0) (fun hy0_0 => ?_) (fun hy0_0 => ?_)
  refine Den.KK.law_calls (ρ := Den.KK.vlOf [(19023204826012975103, q1), (92810181120851181567, q5)] (by intro p hp; simp at hp; (repeat' (first | (rcases hp with rfl | hp) | (obtain rfl := hp))) <;> exact ⟨by omega, by simp [Den.symHi]; omega⟩)) (rargs := [.int .i64 a0, .int .i64 a1, .bool false]) w Den.KK.run_IterHolds_0_22_f fun G w => ?_
  exact (.cons _ _ _ _ (Den.VR.intE (by simp [Den.SI.val, Den.valT, Den.KK.vlOf]; omega)) (.cons _ _ _ _ (Den.VR.intE (by simp [Den.SI.val, Den.valT, Den.KK.vlOf]; omega)) (.cons _ _ _ _ (.bool _) .nil)))
  refine dite (x1 ≤ 22) (fun hy0_1 => ?_) (fun hy0_1 => ?_)
  refine Den.KK.law_calls (ρ := Den.KK.vlOf [(36893488147419103253, x1 - 1), (19023204826012975103, q1), (92810181120851181567, q5)] (by intro p hp; simp at hp; (repeat' (first | (rcases hp with rfl | hp) | (obtain rfl := hp))) <;> exact ⟨by omega, by simp [Den.symHi]; omega⟩)) (rargs := [.int .i64 a0, .int .i64 a1, .bool false]) w Den.KK.run_IterHolds_1t22_22_f fun G w => ?_
  exact (.cons _ _ _ _ (Den.VR.intE (by simp [Den.SI.val, Den.valT, Den.KK.vlOf]; omega)) (.cons _ _ _ _ (Den.VR.intE (by simp [Den.SI.val, Den.valT, Den.KK.vlOf]; omega)) (.cons _ _ _ _ (.bool _) .nil)))
  refine Den.KK.law_calls (ρ := Den.KK.vlOf [(36893488147419103240, x1 - 23), (19023204826012975103, q1), (92810181120851181567, q5)] (by intro p hp; simp at hp; (repeat' (first | (rcases hp with rfl | hp) | (obtain rfl := hp))) <;> exact ⟨by omega, by simp [Den.symHi]; omega⟩)) (rargs := [.int .i64 a0, .int .i64 a1, .bool false]) w Den.KK.run_IterHolds_23t31_22_f fun G w => ?_
  exact (.cons _ _ _ _ (Den.VR.intE (by simp [Den.SI.val, Den.valT, Den.KK.vlOf]; omega)) (.cons _ _ _ _ (Den.VR.intE (by simp [Den.SI.val, Den.valT, Den.KK.vlOf]; omega)) (.cons _ _ _ _ (.bool _) .nil)))
  refine dite (x1 ≤ 0) (fun hy0_0 => ?_) (fun hy0_0 => ?_)
  refine Den.KK.law_calls (ρ := Den.KK.vlOf [(19023204826012975103, q1), (92810181120851181567, q5)] (by intro p hp; simp at hp; (repeat' (first | (rcases hp with rfl | hp) | (obtain rfl := hp))) <;> exact ⟨by omega, by simp [Den.symHi]; omega⟩)) (rargs := [.int .i64 a0, .int .i64 a1, .bool false]) w Den.KK.run_IterHolds_0_23_f fun G w => ?_
  exact (.cons _ _ _ _ (Den.VR.intE (by simp [Den.SI.val, Den.valT, Den.KK.vlOf]; omega)) (.cons _ _ _ _ (Den.VR.intE (by simp [Den.SI.val, Den.valT, Den.KK.vlOf]; omega)) (.cons _ _ _ _ (.bool _) .nil)))
  refine dite (x1 ≤ 23) (fun hy0_1 => ?_) (fun hy0_1 => ?_)
  refine Den.KK.law_calls (ρ := Den.KK.vlOf [(36893488147419103254, x1 - 1), (19023204826012975103, q1), (92810181120851181567, q5)] (by intro p hp; simp at hp; (repeat' (first | (rcases hp with rfl | hp) | (obtain rfl := hp))) <;> exact ⟨by omega, by simp [Den.symHi]; omega⟩)) (rargs := [.int .i64 a0, .int .i64 a1, .bool false]) w Den.KK.run_IterHolds_1t23_23_f fun G w => ?_
  exact (.cons _ _ _ _ (Den.VR.intE (by simp [Den.SI.val, Den.valT, Den.KK.vlOf]; omega)) (.cons _ _ _ _ (Den.VR.intE (by simp [Den.SI.val, Den.valT, Den.KK.vlOf]; omega)) (.cons _ _ _ _ (.bool _) .nil)))
  refine Den.KK.law_calls (ρ := Den.KK.vlOf [(36893488147419103239, x1 - 24), (19023204826012975103, q1), (92810181120851181567, q5)] (by intro p hp; simp at hp; (repeat' (first | (rcases hp with rfl | hp) | (obtain rfl := hp))) <;> exact ⟨by omega, by simp [Den.symHi]; omega⟩)) (rargs := [.int .i64 a0, .int .i64 a1, .bool false]) w Den.KK.run_IterHolds_24t31_23_f fun G w => ?_
  exact (.cons _ _ _ _ (Den.VR.intE (by simp [Den.SI.val, Den.valT, Den.KK.vlOf]; omega)) (.cons _ _ _ _ (Den.VR.intE (by simp [Den.SI.val, Den.valT, Den.KK.vlOf]; omega)) (.cons _ _ _ _ (.bool _) .nil)))
  refine dite (x5 ≤ 27) (fun hy1_2 => ?_) (fun hy1_2 => ?_)
  refine dite (x5 ≤ 25) (fun hy1_3 => ?_) (fun hy1_3 => ?_)
  refine dite (x5 ≤ 24) (fun hy1_4 => ?_) (fun hy1_4 => ?_)
  refine dite (x1 ≤ 0) (fun hy0_0 => ?_) (fun hy0_0 => ?_)
  refine Den.KK.law_calls (ρ := Den.KK.vlOf [(19023204826012975103, q1), (92810181120851181567, q5)] (by intro p hp; simp at hp; (repeat' (first | (rcases hp with rfl | hp) | (obtain rfl := hp))) <;> exact ⟨by omega, by simp [Den.symHi]; omega⟩)) (rargs := [.int .i64 a0, .int .i64 a1, .bool false]) w Den.KK.run_IterHolds_0_24_f fun G w => ?_
  exact (.cons _ _ _ _ (Den.VR.intE (by simp [Den.SI.val, Den.valT, Den.KK.vlOf]; omega)) (.cons _ _ _ _ (Den.VR.intE (by simp [Den.SI.val, Den.valT, Den.KK.vlOf]; omega)) (.cons _ _ _ _ (.bool _) .nil)))
  refine dite (x1 ≤ 24) (fun hy0_1 => ?_) (fun hy0_1 => ?_)
  refine Den.KK.law_calls (ρ := Den.KK.vlOf [(36893488147419103255, x1 - 1), (19023204826012975103, q1), (92810181120851181567, q5)] (by intro p hp; simp at hp; (repeat' (first | (rcases hp with rfl | hp) | (obtain rfl := hp))) <;> exact ⟨by omega, by simp [Den.symHi]; omega⟩)) (rargs := [.int .i64 a0, .int .i64 a1, .bool false]) w Den.KK.run_IterHolds_1t24_24_f fun G w => ?_
  exact (.cons _ _ _ _ (Den.VR.intE (by simp [Den.SI.val, Den.valT, Den.KK.vlOf]; omega)) (.cons _ _ _ _ (Den.VR.intE (by simp [Den.SI.val, Den.valT, Den.KK.vlOf]; omega)) (.cons _ _ _ _ (.bool _) .nil)))
  refine Den.KK.law_calls (ρ := Den.KK.vlOf [(36893488147419103238, x1 - 25), (19023204826012975103, q1), (92810181120851181567, q5)] (by intro p hp; simp at hp; (repeat' (first | (rcases hp with rfl | hp) | (obtain rfl := hp))) <;> exact ⟨by omega, by simp [Den.symHi]; omega⟩)) (rargs := [.int .i64 a0, .int .i64 a1, .bool false]) w Den.KK.run_IterHolds_25t31_24_f fun G w => ?_
  exact (.cons _ _ _ _ (Den.VR.intE (by simp [Den.SI.val, Den.valT, Den.KK.vlOf]; omega)) (.cons _ _ _ _ (Den.VR.intE (by simp [Den.SI.val, Den.valT, Den.KK.vlOf]; omega)) (.cons _ _ _ _ (.bool _) .nil)))
  refine dite (x1 ≤ 0) (fun hy0_0 => ?_) (fun hy0_0 => ?_)
  refine Den.KK.law_calls (ρ := Den.KK.vlOf [(19023204826012975103, q1), (92810181120851181567, q5)] (by intro p hp; simp at hp; (repeat' (first | (rcases hp with rfl | hp) | (obtain rfl := hp))) <;> exact ⟨by omega, by simp [Den.symHi]; omega⟩)) (rargs := [.int .i64 a0, .int .i64 a1, .bool false]) w Den.KK.run_IterHolds_0_25_f fun G w => ?_
  exact (.cons _ _ _ _ (Den.VR.intE (by simp [Den.SI.val, Den.valT, Den.KK.vlOf]; omega)) (.cons _ _ _ _ (Den.VR.intE (by simp [Den.SI.val, Den.valT, Den.KK.vlOf]; omega)) (.cons _ _ _ _ (.bool _) .nil)))
  refine dite (x1 ≤ 25) (fun hy0_1 => ?_) (fun hy0_1 => ?_)
  refine Den.KK.law_calls (ρ := Den.KK.vlOf [(36893488147419103256, x1 - 1), (19023204826012975103, q1), (92810181120851181567, q5)] (by intro p hp; simp at hp; (repeat' (first | (rcases hp with rfl | hp) | (obtain rfl := hp))) <;> exact ⟨by omega, by simp [Den.symHi]; omega⟩)) (rargs := [.int .i64 a0, .int .i64 a1, .bool false]) w Den.KK.run_IterHolds_1t25_25_f fun G w => ?_
  exact (.cons _ _ _ _ (Den.VR.intE (by simp [Den.SI.val, Den.valT, Den.KK.vlOf]; omega)) (.cons _ _ _ _ (Den.VR.intE (by simp [Den.SI.val, Den.valT, Den.KK.vlOf]; omega)) (.cons _ _ _ _ (.bool _) .nil)))
  refine Den.KK.law_calls (ρ := Den.KK.vlOf [(36893488147419103237, x1 - 26), (19023204826012975103, q1), (92810181120851181567, q5)] (by intro p hp; simp at hp; (repeat' (first | (rcases hp with rfl | hp) | (obtain rfl := hp))) <;> exact ⟨by omega, by simp [Den.symHi]; omega⟩)) (rargs := [.int .i64 a0, .int .i64 a1, .bool false]) w Den.KK.run_IterHolds_26t31_25_f fun G w => ?_
  exact (.cons _ _ _ _ (Den.VR.intE (by simp [Den.SI.val, Den.valT, Den.KK.vlOf]; omega)) (.cons _ _ _ _ (Den.VR.intE (by simp [Den.SI.val, Den.valT, Den.KK.vlOf]; omega)) (.cons _ _ _ _ (.bool _) .nil)))
  refine dite (x5 ≤ 26) (fun hy1_4 => ?_) (fun hy1_4 => ?_)
  refine dite (x1 ≤ 0) (fun hy0_0 => ?_) (fun hy0_0 => ?_)
  refine Den.KK.law_calls (ρ := Den.KK.vlOf [(19023204826012975103, q1), (92810181120851181567, q5)] (by intro p hp; simp at hp; (repeat' (first | (rcases hp with rfl | hp) | (obtain rfl := hp))) <;> exact ⟨by omega, by simp [Den.symHi]; omega⟩)) (rargs := [.int .i64 a0, .int .i64 a1, .bool false]) w Den.KK.run_IterHolds_0_26_f fun G w => ?_
  exact (.cons _ _ _ _ (Den.VR.intE (by simp [Den.SI.val, Den.valT, Den.KK.vlOf]; omega)) (.cons _ _ _ _ (Den.VR.intE (by simp [Den.SI.val, Den.valT, Den.KK.vlOf]; omega)) (.cons _ _ _ _ (.bool _) .nil)))
  refine dite (x1 ≤ 26) (fun hy0_1 => ?_) (fun hy0_1 => ?_)
  refine Den.KK.law_calls (ρ := Den.KK.vlOf [(36893488147419103257, x1 - 1), (19023204826012975103, q1), (92810181120851181567, q5)] (by intro p hp; simp at hp; (repeat' (first | (rcases hp with rfl | hp) | (obtain rfl := hp))) <;> exact ⟨by omega, by simp [Den.symHi]; omega⟩)) (rargs := [.int .i64 a0, .int .i64 a1, .bool false]) w Den.KK.run_IterHolds_1t26_26_f fun G w => ?_
  exact (.cons _ _ _ _ (Den.VR.intE (by simp [Den.SI.val, Den.valT, Den.KK.vlOf]; omega)) (.cons _ _ _ _ (Den.VR.intE (by simp [Den.SI.val, Den.valT, Den.KK.vlOf]; omega)) (.cons _ _ _ _ (.bool _) .nil)))
  refine Den.KK.law_calls (ρ := Den.KK.vlOf [(36893488147419103236, x1 - 27), (19023204826012975103, q1), (92810181120851181567, q5)] (by intro p hp; simp at hp; (repeat' (first | (rcases hp with rfl | hp) | (obtain rfl := hp))) <;> exact ⟨by omega, by simp [Den.symHi]; omega⟩)) (rargs := [.int .i64 a0, .int .i64 a1, .bool false]) w Den.KK.run_IterHolds_27t31_26_f fun G w => ?_
  exact (.cons _ _ _ _ (Den.VR.intE (by simp [Den.SI.val, Den.valT, Den.KK.vlOf]; omega)) (.cons _ _ _ _ (Den.VR.intE (by simp [Den.SI.val, Den.valT, Den.KK.vlOf]; omega)) (.cons _ _ _ _ (.bool _) .nil)))
  refine dite (x1 ≤ 0) (fun hy0_0 => ?_) (fun hy0_0 => ?_)
  refine Den.KK.law_calls (ρ := Den.KK.vlOf [(19023204826012975103, q1), (92810181120851181567, q5)] (by intro p hp; simp at hp; (repeat' (first | (rcases hp with rfl | hp) | (obtain rfl := hp))) <;> exact ⟨by omega, by simp [Den.symHi]; omega⟩)) (rargs := [.int .i64 a0, .int .i64 a1, .bool false]) w Den.KK.run_IterHolds_0_27_f fun G w => ?_
  exact (.cons _ _ _ _ (Den.VR.intE (by simp [Den.SI.val, Den.valT, Den.KK.vlOf]; omega)) (.cons _ _ _ _ (Den.VR.intE (by simp [Den.SI.val, Den.valT, Den.KK.vlOf]; omega)) (.cons _ _ _ _ (.bool _) .nil)))
  refine dite (x1 ≤ 27) (fun hy0_1 => ?_) (fun hy0_1 => ?_)
  refine Den.KK.law_calls (ρ := Den.KK.vlOf [(36893488147419103258, x1 - 1), (19023204826012975103, q1), (92810181120851181567, q5)] (by intro p hp; simp at hp; (repeat' (first | (rcases hp with rfl | hp) | (obtain rfl := hp))) <;> exact ⟨by omega, by simp [Den.symHi]; omega⟩)) (rargs := [.int .i64 a0, .int .i64 a1, .bool false]) w Den.KK.run_IterHolds_1t27_27_f fun G w => ?_
  exact (.cons _ _ _ _ (Den.VR.intE (by simp [Den.SI.val, Den.valT, Den.KK.vlOf]; omega)) (.cons _ _ _ _ (Den.VR.intE (by simp [Den.SI.val, Den.valT, Den.KK.vlOf]; omega)) (.cons _ _ _ _ (.bool _) .nil)))
  refine Den.KK.law_calls (ρ := Den.KK.vlOf [(36893488147419103235, x1 - 28), (19023204826012975103, q1), (92810181120851181567, q5)] (by intro p hp; simp at hp; (repeat' (first | (rcases hp with rfl | hp) | (obtain rfl := hp))) <;> exact ⟨by omega, by simp [Den.symHi]; omega⟩)) (rargs := [.int .i64 a0, .int .i64 a1, .bool false]) w Den.KK.run_IterHolds_28t31_27_f fun G w => ?_
  exact (.cons _ _ _ _ (Den.VR.intE (by simp [Den.SI.val, Den.valT, Den.KK.vlOf]; omega)) (.cons _ _ _ _ (Den.VR.intE (by simp [Den.SI.val, Den.valT, Den.KK.vlOf]; omega)) (.cons _ _ _ _ (.bool _) .nil)))
  refine dite (x5 ≤ 29) (fun hy1_3 => ?_) (fun hy1_3 => ?_)
  refine dite (x5 ≤ 28) (fun hy1_4 => ?_) (fun hy1_4 => ?_)
  refine dite (x1 ≤ 0) (fun hy0_0 => ?_) (fun hy0_0 => ?_)
  refine Den.KK.law_calls (ρ := Den.KK.vlOf [(19023204826012975103, q1), (92810181120851181567, q5)] (by intro p hp; simp at hp; (repeat' (first | (rcases hp with rfl | hp) | (obtain rfl := hp))) <;> exact ⟨by omega, by simp [Den.symHi]; omega⟩)) (rargs := [.int .i64 a0, .int .i64 a1, .bool false]) w Den.KK.run_IterHolds_0_28_f fun G w => ?_
  exact (.cons _ _ _ _ (Den.VR.intE (by simp [Den.SI.val, Den.valT, Den.KK.vlOf]; omega)) (.cons _ _ _ _ (Den.VR.intE (by simp [Den.SI.val, Den.valT, Den.KK.vlOf]; omega)) (.cons _ _ _ _ (.bool _) .nil)))
  refine dite (x1 ≤ 28) (fun hy0_1 => ?_) (fun hy0_1 => ?_)
  refine Den.KK.law_calls (ρ := Den.KK.vlOf [(36893488147419103259, x1 - 1), (19023204826012975103, q1), (92810181120851181567, q5)] (by intro p hp; simp at hp; (repeat' (first | (rcases hp with rfl | hp) | (obtain rfl := hp))) <;> exact ⟨by omega, by simp [Den.symHi]; omega⟩)) (rargs := [.int .i64 a0, .int .i64 a1, .bool false]) w Den.KK.run_IterHolds_1t28_28_f fun G w => ?_
  exact (.cons _ _ _ _ (Den.VR.intE (by simp [Den.SI.val, Den.valT, Den.KK.vlOf]; omega)) (.cons _ _ _ _ (Den.VR.intE (by simp [Den.SI.val, Den.valT, Den.KK.vlOf]; omega)) (.cons _ _ _ _ (.bool _) .nil)))
  refine Den.KK.law_calls (ρ := Den.KK.vlOf [(36893488147419103234, x1 - 29), (19023204826012975103, q1), (92810181120851181567, q5)] (by intro p hp; simp at hp; (repeat' (first | (rcases hp with rfl | hp) | (obtain rfl := hp))) <;> exact ⟨by omega, by simp [Den.symHi]; omega⟩)) (rargs := [.int .i64 a0, .int .i64 a1, .bool false]) w Den.KK.run_IterHolds_29t31_28_f fun G w => ?_
  exact (.cons _ _ _ _ (Den.VR.intE (by simp [Den.SI.val, Den.valT, Den.KK.vlOf]; omega)) (.cons _ _ _ _ (Den.VR.intE (by simp [Den.SI.val, Den.valT, Den.KK.vlOf]; omega)) (.cons _ _ _ _ (.bool _) .nil)))
  refine dite (x1 ≤ 0) (fun hy0_0 => ?_) (fun hy0_0 => ?_)
  refine Den.KK.law_calls (ρ := Den.KK.vlOf [(19023204826012975103, q1), (92810181120851181567, q5)] (by intro p hp; simp at hp; (repeat' (first | (rcases hp with rfl | hp) | (obtain rfl := hp))) <;> exact ⟨by omega, by simp [Den.symHi]; omega⟩)) (rargs := [.int .i64 a0, .int .i64 a1, .bool false]) w Den.KK.run_IterHolds_0_29_f fun G w => ?_
  exact (.cons _ _ _ _ (Den.VR.intE (by simp [Den.SI.val, Den.valT, Den.KK.vlOf]; omega)) (.cons _ _ _ _ (Den.VR.intE (by simp [Den.SI.val, Den.valT, Den.KK.vlOf]; omega)) (.cons _ _ _ _ (.bool _) .nil)))
  refine dite (x1 ≤ 29) (fun hy0_1 => ?_) (fun hy0_1 => ?_)
  refine Den.KK.law_calls (ρ := Den.KK.vlOf [(36893488147419103260, x1 - 1), (19023204826012975103, q1), (92810181120851181567, q5)] (by intro p hp; simp at hp; (repeat' (first | (rcases hp with rfl | hp) | (obtain rfl := hp))) <;> exact ⟨by omega, by simp [Den.symHi]; omega⟩)) (rargs := [.int .i64 a0, .int .i64 a1, .bool false]) w Den.KK.run_IterHolds_1t29_29_f fun G w => ?_
  exact (.cons _ _ _ _ (Den.VR.intE (by simp [Den.SI.val, Den.valT, Den.KK.vlOf]; omega)) (.cons _ _ _ _ (Den.VR.intE (by simp [Den.SI.val, Den.valT, Den.KK.vlOf]; omega)) (.cons _ _ _ _ (.bool _) .nil)))
  refine Den.KK.law_calls (ρ := Den.KK.vlOf [(36893488147419103233, x1 - 30), (19023204826012975103, q1), (92810181120851181567, q5)] (by intro p hp; simp at hp; (repeat' (first | (rcases hp with rfl | hp) | (obtain rfl := hp))) <;> exact ⟨by omega, by simp [Den.symHi]; omega⟩)) (rargs := [.int .i64 a0, .int .i64 a1, .bool false]) w Den.KK.run_IterHolds_30t31_29_f fun G w => ?_
  exact (.cons _ _ _ _ (Den.VR.intE (by simp [Den.SI.val, Den.valT, Den.KK.vlOf]; omega)) (.cons _ _ _ _ (Den.VR.intE (by simp [Den.SI.val, Den.valT, Den.KK.vlOf]; omega)) (.cons _ _ _ _ (.bool _) .nil)))
  refine dite (x5 ≤ 30) (fun hy1_4 => ?_) (fun hy1_4 => ?_)
  refine dite (x1 ≤ 0) (fun hy0_0 => ?_) (fun hy0_0 => ?_)
  refine Den.KK.law_calls (ρ := Den.KK.vlOf [(19023204826012975103, q1), (92810181120851181567, q5)] (by intro p hp; simp at hp; (repeat' (first | (rcases hp with rfl | hp) | (obtain rfl := hp))) <;> exact ⟨by omega, by simp [Den.symHi]; omega⟩)) (rargs := [.int .i64 a0, .int .i64 a1, .bool false]) w Den.KK.run_IterHolds_0_30_f fun G w => ?_
  exact (.cons _ _ _ _ (Den.VR.intE (by simp [Den.SI.val, Den.valT, Den.KK.vlOf]; omega)) (.cons _ _ _ _ (Den.VR.intE (by simp [Den.SI.val, Den.valT, Den.KK.vlOf]; omega)) (.cons _ _ _ _ (.bool _) .nil)))
  refine dite (x1 ≤ 30) (fun hy0_1 => ?_) (fun hy0_1 => ?_)
  refine Den.KK.law_calls (ρ := Den.KK.vlOf [(36893488147419103261, x1 - 1), (19023204826012975103, q1), (92810181120851181567, q5)] (by intro p hp; simp at hp; (repeat' (first | (rcases hp with rfl | hp) | (obtain rfl := hp))) <;> exact ⟨by omega, by simp [Den.symHi]; omega⟩)) (rargs := [.int .i64 a0, .int .i64 a1, .bool false]) w Den.KK.run_IterHolds_1t30_30_f fun G w => ?_
  exact (.cons _ _ _ _ (Den.VR.intE (by simp [Den.SI.val, Den.valT, Den.KK.vlOf]; omega)) (.cons _ _ _ _ (Den.VR.intE (by simp [Den.SI.val, Den.valT, Den.KK.vlOf]; omega)) (.cons _ _ _ _ (.bool _) .nil)))
  refine Den.KK.law_calls (ρ := Den.KK.vlOf [(19023204826012975103, q1), (92810181120851181567, q5)] (by intro p hp; simp at hp; (repeat' (first | (rcases hp with rfl | hp) | (obtain rfl := hp))) <;> exact ⟨by omega, by simp [Den.symHi]; omega⟩)) (rargs := [.int .i64 a0, .int .i64 a1, .bool false]) w Den.KK.run_IterHolds_31_30_f fun G w => ?_
  exact (.cons _ _ _ _ (Den.VR.intE (by simp [Den.SI.val, Den.valT, Den.KK.vlOf]; omega)) (.cons _ _ _ _ (Den.VR.intE (by simp [Den.SI.val, Den.valT, Den.KK.vlOf]; omega)) (.cons _ _ _ _ (.bool _) .nil)))
  refine dite (x1 ≤ 0) (fun hy0_0 => ?_) (fun hy0_0 => ?_)
  refine Den.KK.law_calls (ρ := Den.KK.vlOf [(19023204826012975103, q1), (92810181120851181567, q5)] (by intro p hp; simp at hp; (repeat' (first | (rcases hp with rfl | hp) | (obtain rfl := hp))) <;> exact ⟨by omega, by simp [Den.symHi]; omega⟩)) (rargs := [.int .i64 a0, .int .i64 a1, .bool false]) w Den.KK.run_IterHolds_0_31_f fun G w => ?_
  exact (.cons _ _ _ _ (Den.VR.intE (by simp [Den.SI.val, Den.valT, Den.KK.vlOf]; omega)) (.cons _ _ _ _ (Den.VR.intE (by simp [Den.SI.val, Den.valT, Den.KK.vlOf]; omega)) (.cons _ _ _ _ (.bool _) .nil)))
  refine Den.KK.law_calls (ρ := Den.KK.vlOf [(36893488147419103262, x1 - 1), (19023204826012975103, q1), (92810181120851181567, q5)] (by intro p hp; simp at hp; (repeat' (first | (rcases hp with rfl | hp) | (obtain rfl := hp))) <;> exact ⟨by omega, by simp [Den.symHi]; omega⟩)) (rargs := [.int .i64 a0, .int .i64 a1, .bool false]) w Den.KK.run_IterHolds_1t31_31_f fun G w => ?_
  exact (.cons _ _ _ _ (Den.VR.intE (by simp [Den.SI.val, Den.valT, Den.KK.vlOf]; omega)) (.cons _ _ _ _ (Den.VR.intE (by simp [Den.SI.val, Den.valT, Den.KK.vlOf]; omega)) (.cons _ _ _ _ (.bool _) .nil)))
  refine dite (x5 ≤ 0) (fun hy1_0 => ?_) (fun hy1_0 => ?_)
  refine dite (x1 ≤ 0) (fun hy0_0 => ?_) (fun hy0_0 => ?_)
  refine Den.KK.law_calls (ρ := Den.KK.vlOf [(19023204826012975103, q1), (92810181120851181567, q5)] (by intro p hp; simp at hp; (repeat' (first | (rcases hp with rfl | hp) | (obtain rfl := hp))) <;> exact ⟨by omega, by simp [Den.symHi]; omega⟩)) (rargs := [.int .i64 a0, .int .i64 a1, .bool true]) w Den.KK.run_IterHolds_0_0_t fun G w => ?_
  exact (.cons _ _ _ _ (Den.VR.intE (by simp [Den.SI.val, Den.valT, Den.KK.vlOf]; omega)) (.cons _ _ _ _ (Den.VR.intE (by simp [Den.SI.val, Den.valT, Den.KK.vlOf]; omega)) (.cons _ _ _ _ (.bool _) .nil)))
  refine Den.KK.law_calls (ρ := Den.KK.vlOf [(36893488147419103262, x1 - 1), (19023204826012975103, q1), (92810181120851181567, q5)] (by intro p hp; simp at hp; (repeat' (first | (rcases hp with rfl | hp) | (obtain rfl := hp))) <;> exact ⟨by omega, by simp [Den.symHi]; omega⟩)) (rargs := [.int .i64 a0, .int .i64 a1, .bool true]) w Den.KK.run_IterHolds_1t31_0_t fun G w => ?_
  exact (.cons _ _ _ _ (Den.VR.intE (by simp [Den.SI.val, Den.valT, Den.KK.vlOf]; omega)) (.cons _ _ _ _ (Den.VR.intE (by simp [Den.SI.val, Den.valT, Den.KK.vlOf]; omega)) (.cons _ _ _ _ (.bool _) .nil)))
  refine dite (x1 ≤ 0) (fun hy0_0 => ?_) (fun hy0_0 => ?_)
  refine Den.KK.law_calls (ρ := Den.KK.vlOf [(19023204826012975103, q1), (110680464442257309726, x5 - 1), (92810181120851181567, q5)] (by intro p hp; simp at hp; (repeat' (first | (rcases hp with rfl | hp) | (obtain rfl := hp))) <;> exact ⟨by omega, by simp [Den.symHi]; omega⟩)) (rargs := [.int .i64 a0, .int .i64 a1, .bool true]) w Den.KK.run_IterHolds_0_1t31_t fun G w => ?_
  exact (.cons _ _ _ _ (Den.VR.intE (by simp [Den.SI.val, Den.valT, Den.KK.vlOf]; omega)) (.cons _ _ _ _ (Den.VR.intE (by simp [Den.SI.val, Den.valT, Den.KK.vlOf]; omega)) (.cons _ _ _ _ (.bool _) .nil)))
  refine Den.KK.law_calls (ρ := Den.KK.vlOf [(36893488147419103262, x1 - 1), (19023204826012975103, q1), (110680464442257309726, x5 - 1), (92810181120851181567, q5)] (by intro p hp; simp at hp; (repeat' (first | (rcases hp with rfl | hp) | (obtain rfl := hp))) <;> exact ⟨by omega, by simp [Den.symHi]; omega⟩)) (rargs := [.int .i64 a0, .int .i64 a1, .bool true]) w Den.KK.run_IterHolds_1t31_1t31_t fun G w => ?_
  exact (.cons _ _ _ _ (Den.VR.intE (by simp [Den.SI.val, Den.valT, Den.KK.vlOf]; omega)) (.cons _ _ _ _ (Den.VR.intE (by simp [Den.SI.val, Den.valT, Den.KK.vlOf]; omega)) (.cons _ _ _ _ (.bool _) .nil)))

set_option maxRecDepth 100000 in
theorem lifted (os : Os) (started : os.Started) (H : Type) (enc : TypeId × Value → H) :
    ReturnsInHanded {} Tryz.checked os 3 .any (Rows.iterHoldsSpec.pre6 enc Tryz.prog Tryz.f3 Rows.iterHoldsRow.domain false) (Rows.iterHoldsSpec.post enc Tryz.prog Tryz.f3 false true false false) := by
  refine returnsInHanded_of_change (C := Tryz.checked) own started (by kernel_rfl) Tryz.func3
    (ChangeSpec.witness6 (enc := enc) (C := Tryz.checked) false ⟨#[], #[.int .i64 0, .int .i64 0, .bool false], []⟩ 8 (by kernel_rfl) (by kernel_rfl) (by kernel_rfl) (by kernel_rfl)) ?_
  intro W base args ds gs before hval0 hW hcnd _
  have hval : ∀ (j : Nat) t v, Tryz.f3.params[j]? = some t → args[j]? = some v → Value.okWide Tryz.prog W .any base t v := hval0
  have hW' := hW
  obtain ⟨p, q, hA0, hV, rfl, hfz, hnd⟩ := hW
  have hA : DataW.TrodAll enc Tryz.prog W 0 (fun _ => true) true Tryz.f3.params.toList args.toList ds p := hA0
  rw [Tryz.params3] at hA hval
  obtain ⟨v0, vs0, d0, ds0, p0, q0, hargs, rfl, rfl, h0, r0⟩ := trodAll_cons hA
  obtain ⟨v1, vs1, d1, ds1, p1, q1, rfl, rfl, rfl, h1, r1⟩ := trodAll_cons r0
  obtain ⟨v2, vs2, d2, ds2, p2, q2, rfl, rfl, rfl, h2, r2⟩ := trodAll_cons r1
  obtain ⟨rfl, rfl, rfl⟩ := trodAll_nil r2
  obtain rfl : args = #[v0, v1, v2] := by cases args; simp_all
  obtain ⟨rfl, rfl⟩ := trodVars_none hV
  obtain ⟨a0, rfl, rfl, rfl, w0⟩ := open_int Tryz.underlying3 (hval 0 3 v0 rfl rfl) h0
  obtain ⟨a1, rfl, rfl, rfl, w1⟩ := open_int Tryz.underlying3 (hval 1 3 v1 rfl rfl) h1
  obtain ⟨a2, rfl, rfl, rfl⟩ := open_bool Tryz.underlying4 (hval 2 4 v2 rfl rfl) h2
  clear hA0 hval0
  simp only [List.append_nil] at hW'
  refine (walk a0 w0 a1 w1 a2 W).mono fun e W' ⟨he, hg⟩ => ?_
  subst he
  exact ⟨_, rfl, Den.post_plain hW' (fun _ _ _ => (trodAll_cons_mk (shut_bool Tryz.underlying4 _) trodAll_mk0)) (fun sp => (trodAll_cons_mk (shut_int Tryz.underlying3 w0) (trodAll_cons_mk (shut_int Tryz.underlying3 w1) (trodAll_cons_mk (shut_bool Tryz.underlying4 _) trodAll_mk0)))) (fun _ => rfl)
    hg (ok_one (by kernel_rfl) rfl (okWide_bool_mk Tryz.underlying4 _))⟩

theorem over : Rows.iterHoldsRow.holds Tryz.pinned (OpenSpec.ofChange Rows.iterHoldsSpec) :=
  OpenClaim.holds_of_wide 3 Tryz.f3 rfl rfl rfl rfl rfl rfl rfl ⟨rfl, rfl, rfl, rfl, rfl⟩ rfl rfl rfl rfl rfl (by as_aux_lemma => kernel_rfl) Tryz.func3 closed
    (of_decide_eq_true (by as_aux_lemma => kernel_rfl)) (by unfold Func.isWrapper; first | (rw [if_pos (by decide +kernel)]; kernel_rfl) | (rw [if_neg (by decide +kernel)]; exact ⟨rfl, rfl⟩))
    (fun os started H enc _ => lifted os started H enc)

theorem proved : Rows.IterHoldsSaid := over
end Go.Proofs.YtlldjadlhgonbaaGreat.iterHolds
