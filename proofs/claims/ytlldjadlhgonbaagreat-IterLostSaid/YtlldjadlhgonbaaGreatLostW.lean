/-
  Proved: for every input wimplelaw24.IterLost returns true, and its arguments read behind the call as they read before. No condition is added: the arguments are parted into cases, and each case is run by the kernel on an abstract machine that is proved to speak of every run of the model. 
-/
import Derived.Test.YtlldjadlhgonbaaGreatRows
import Derived.Test.YtlldjadlhgonbaaGreatDenVN
import Derived.Test.YtlldjadlhgonbaaGreatLostAA
import Derived.Test.YtlldjadlhgonbaaGreatLostAB
import Derived.Test.YtlldjadlhgonbaaGreatLostAC
import Derived.Test.YtlldjadlhgonbaaGreatLostAD
import Derived.Test.YtlldjadlhgonbaaGreatLostAE
import Derived.Test.YtlldjadlhgonbaaGreatLostAF
import Derived.Test.YtlldjadlhgonbaaGreatLostAG
import Derived.Test.YtlldjadlhgonbaaGreatLostAH
import Derived.WalkKit
import Derived.ProofKit
import Derived.OpenShut
namespace Go.Proofs.YtlldjadlhgonbaaGreat.iterLost
open Go.ChangeShapes Go.WideShapes Go.ChangeAt Go.RowKit
set_option linter.unusedVariables false

theorem own : ownKnob Tryz.prog.godebug = none := by kernel_rfl

theorem walk (a0 : Int) (w0 : (Lit.int .i64 a0).wf = true) (a1 : Int) (w1 : (Lit.int .i64 a1).wf = true) (a2 : Int) (w2 : (Lit.int .i64 a2).wf = true) (w : World) :
    Calls Tryz.prog 5 #[.int .i64 a0, .int .i64 a1, .int .i64 a2] w fun e w' => e = .returned (.bool true) ∧ Below w.heap.size w w' := by
  obtain ⟨b01, b02⟩ := Den.KK.bound64 w0
  obtain ⟨q1, r0, e0, hr0, hq01, hq02⟩ : ∃ (q : Int) (r : Nat), a0 = (r : Int) - 9223372036854775808 + 8 * q ∧ r < 8 ∧ 0 ≤ q ∧ q ≤ 2305843009213693951 :=
    ⟨(a0 + 9223372036854775808) / 8, ((a0 + 9223372036854775808) % 8).toNat, by omega, by omega, by omega, by omega⟩
  obtain ⟨b11, b12⟩ := Den.KK.bound64 w1
  obtain ⟨q2, r1, e1, hr1, hq11, hq12⟩ : ∃ (q : Int) (r : Nat), a1 = (r : Int) - 9223372036854775808 + 2 * q ∧ r < 2 ∧ 0 ≤ q ∧ q ≤ 9223372036854775807 :=
    ⟨(a1 + 9223372036854775808) / 2, ((a1 + 9223372036854775808) % 2).toNat, by omega, by omega, by omega, by omega⟩
  obtain ⟨b21, b22⟩ := Den.KK.bound64 w2
  obtain ⟨q4, x4, e2, hx21, hx22, hq21, hq22⟩ : ∃ q x : Int, a2 = x - 9223372036854775808 + 16 * q ∧ 0 ≤ x ∧ x < 16 ∧ 0 ≤ q ∧ q ≤ 1152921504606846975 :=
    ⟨(a2 + 9223372036854775808) / 16, (a2 + 9223372036854775808) % 16, by omega, by omega, by omega, by omega, by omega⟩
  match r0, hr0, e0 with
  | 0, _, e0 =>
    match r1, hr1, e1 with
    | 0, _, e1 =>
      rcases (by omega : x4 = 0 ∨ (1 ≤ x4 ∧ x4 ≤ 15)) with hy2 | hy2
      ·
        refine Den.KK.law_calls (ρ := Den.KK.vlOf [(20752587082923245567, q1), (46116860184273879039, q2), (74939897799445053439, q4)] (by intro p hp; simp at hp; (repeat' (first | (rcases hp with rfl | hp) | (obtain rfl := hp))) <;> exact ⟨by omega, by simp [Den.symHi]; omega⟩)) (rargs := [.int .i64 a0, .int .i64 a1, .int .i64 a2]) w Den.KK.run_IterLost_0_0_0 fun G w => ?_
        exact (.cons _ _ _ _ (Den.VR.intE (by simp [Den.SI.val, Den.valT, Den.KK.vlOf]; omega)) (.cons _ _ _ _ (Den.VR.intE (by simp [Den.SI.val, Den.valT, Den.KK.vlOf]; omega)) (.cons _ _ _ _ (Den.VR.intE (by simp [Den.SI.val, Den.valT, Den.KK.vlOf]; omega)) .nil)))
      ·
        refine Den.KK.law_calls (ρ := Den.KK.vlOf [(20752587082923245567, q1), (46116860184273879039, q2), (92233720368547758094, x4 - 1), (74939897799445053439, q4)] (by intro p hp; simp at hp; (repeat' (first | (rcases hp with rfl | hp) | (obtain rfl := hp))) <;> exact ⟨by omega, by simp [Den.symHi]; omega⟩)) (rargs := [.int .i64 a0, .int .i64 a1, .int .i64 a2]) w Den.KK.run_IterLost_0_0_1t15 fun G w => ?_
        exact (.cons _ _ _ _ (Den.VR.intE (by simp [Den.SI.val, Den.valT, Den.KK.vlOf]; omega)) (.cons _ _ _ _ (Den.VR.intE (by simp [Den.SI.val, Den.valT, Den.KK.vlOf]; omega)) (.cons _ _ _ _ (Den.VR.intE (by simp [Den.SI.val, Den.valT, Den.KK.vlOf]; omega)) .nil)))
    | 1, _, e1 =>
      rcases (by omega : x4 = 0 ∨ (1 ≤ x4 ∧ x4 ≤ 15)) with hy2 | hy2
      ·
        refine Den.KK.law_calls (ρ := Den.KK.vlOf [(20752587082923245567, q1), (46116860184273879039, q2), (74939897799445053439, q4)] (by intro p hp; simp at hp; (repeat' (first | (rcases hp with rfl | hp) | (obtain rfl := hp))) <;> exact ⟨by omega, by simp [Den.symHi]; omega⟩)) (rargs := [.int .i64 a0, .int .i64 a1, .int .i64 a2]) w Den.KK.run_IterLost_0_1_0 fun G w => ?_
        exact (.cons _ _ _ _ (Den.VR.intE (by simp [Den.SI.val, Den.valT, Den.KK.vlOf]; omega)) (.cons _ _ _ _ (Den.VR.intE (by simp [Den.SI.val, Den.valT, Den.KK.vlOf]; omega)) (.cons _ _ _ _ (Den.VR.intE (by simp [Den.SI.val, Den.valT, Den.KK.vlOf]; omega)) .nil)))
      ·
        refine Den.KK.law_calls (ρ := Den.KK.vlOf [(20752587082923245567, q1), (46116860184273879039, q2), (92233720368547758094, x4 - 1), (74939897799445053439, q4)] (by intro p hp; simp at hp; (repeat' (first | (rcases hp with rfl | hp) | (obtain rfl := hp))) <;> exact ⟨by omega, by simp [Den.symHi]; omega⟩)) (rargs := [.int .i64 a0, .int .i64 a1, .int .i64 a2]) w Den.KK.run_IterLost_0_1_1t15 fun G w => ?_
        exact (.cons _ _ _ _ (Den.VR.intE (by simp [Den.SI.val, Den.valT, Den.KK.vlOf]; omega)) (.cons _ _ _ _ (Den.VR.intE (by simp [Den.SI.val, Den.valT, Den.KK.vlOf]; omega)) (.cons _ _ _ _ (Den.VR.intE (by simp [Den.SI.val, Den.valT, Den.KK.vlOf]; omega)) .nil)))
  | 1, _, e0 =>
    match r1, hr1, e1 with
    | 0, _, e1 =>
      rcases (by omega : x4 = 0 ∨ (1 ≤ x4 ∧ x4 ≤ 15)) with hy2 | hy2
      ·
        refine Den.KK.law_calls (ρ := Den.KK.vlOf [(20752587082923245567, q1), (46116860184273879039, q2), (74939897799445053439, q4)] (by intro p hp; simp at hp; (repeat' (first | (rcases hp with rfl | hp) | (obtain rfl := hp))) <;> exact ⟨by omega, by simp [Den.symHi]; omega⟩)) (rargs := [.int .i64 a0, .int .i64 a1, .int .i64 a2]) w Den.KK.run_IterLost_1_0_0 fun G w => ?_
        exact (.cons _ _ _ _ (Den.VR.intE (by simp [Den.SI.val, Den.valT, Den.KK.vlOf]; omega)) (.cons _ _ _ _ (Den.VR.intE (by simp [Den.SI.val, Den.valT, Den.KK.vlOf]; omega)) (.cons _ _ _ _ (Den.VR.intE (by simp [Den.SI.val, Den.valT, Den.KK.vlOf]; omega)) .nil)))
      ·
        refine Den.KK.law_calls (ρ := Den.KK.vlOf [(20752587082923245567, q1), (46116860184273879039, q2), (92233720368547758094, x4 - 1), (74939897799445053439, q4)] (by intro p hp; simp at hp; (repeat' (first | (rcases hp with rfl | hp) | (obtain rfl := hp))) <;> exact ⟨by omega, by simp [Den.symHi]; omega⟩)) (rargs := [.int .i64 a0, .int .i64 a1, .int .i64 a2]) w Den.KK.run_IterLost_1_0_1t15 fun G w => ?_
        exact (.cons _ _ _ _ (Den.VR.intE (by simp [Den.SI.val, Den.valT, Den.KK.vlOf]; omega)) (.cons _ _ _ _ (Den.VR.intE (by simp [Den.SI.val, Den.valT, Den.KK.vlOf]; omega)) (.cons _ _ _ _ (Den.VR.intE (by simp [Den.SI.val, Den.valT, Den.KK.vlOf]; omega)) .nil)))
    | 1, _, e1 =>
      rcases (by omega : x4 = 0 ∨ (1 ≤ x4 ∧ x4 ≤ 15)) with hy2 | hy2
      ·
        refine Den.KK.law_calls (ρ := Den.KK.vlOf [(20752587082923245567, q1), (46116860184273879039, q2), (74939897799445053439, q4)] (by intro p hp; simp at hp; (repeat' (first | (rcases hp with rfl | hp) | (obtain rfl := hp))) <;> exact ⟨by omega, by simp [Den.symHi]; omega⟩)) (rargs := [.int .i64 a0, .int .i64 a1, .int .i64 a2]) w Den.KK.run_IterLost_1_1_0 fun G w => ?_
        exact (.cons _ _ _ _ (Den.VR.intE (by simp [Den.SI.val, Den.valT, Den.KK.vlOf]; omega)) (.cons _ _ _ _ (Den.VR.intE (by simp [Den.SI.val, Den.valT, Den.KK.vlOf]; omega)) (.cons _ _ _ _ (Den.VR.intE (by simp [Den.SI.val, Den.valT, Den.KK.vlOf]; omega)) .nil)))
      ·
        refine Den.KK.law_calls (ρ := Den.KK.vlOf [(20752587082923245567, q1), (46116860184273879039, q2), (92233720368547758094, x4 - 1), (74939897799445053439, q4)] (by intro p hp; simp at hp; (repeat' (first | (rcases hp with rfl | hp) | (obtain rfl := hp))) <;> exact ⟨by omega, by simp [Den.symHi]; omega⟩)) (rargs := [.int .i64 a0, .int .i64 a1, .int .i64 a2]) w Den.KK.run_IterLost_1_1_1t15 fun G w => ?_
        exact (.cons _ _ _ _ (Den.VR.intE (by simp [Den.SI.val, Den.valT, Den.KK.vlOf]; omega)) (.cons _ _ _ _ (Den.VR.intE (by simp [Den.SI.val, Den.valT, Den.KK.vlOf]; omega)) (.cons _ _ _ _ (Den.VR.intE (by simp [Den.SI.val, Den.valT, Den.KK.vlOf]; omega)) .nil)))
  | 2, _, e0 =>
    match r1, hr1, e1 with
    | 0, _, e1 =>
      rcases (by omega : x4 = 0 ∨ (1 ≤ x4 ∧ x4 ≤ 15)) with hy2 | hy2
      ·
        refine Den.KK.law_calls (ρ := Den.KK.vlOf [(20752587082923245567, q1), (46116860184273879039, q2), (74939897799445053439, q4)] (by intro p hp; simp at hp; (repeat' (first | (rcases hp with rfl | hp) | (obtain rfl := hp))) <;> exact ⟨by omega, by simp [Den.symHi]; omega⟩)) (rargs := [.int .i64 a0, .int .i64 a1, .int .i64 a2]) w Den.KK.run_IterLost_2_0_0 fun G w => ?_
        exact (.cons _ _ _ _ (Den.VR.intE (by simp [Den.SI.val, Den.valT, Den.KK.vlOf]; omega)) (.cons _ _ _ _ (Den.VR.intE (by simp [Den.SI.val, Den.valT, Den.KK.vlOf]; omega)) (.cons _ _ _ _ (Den.VR.intE (by simp [Den.SI.val, Den.valT, Den.KK.vlOf]; omega)) .nil)))
      ·
        refine Den.KK.law_calls (ρ := Den.KK.vlOf [(20752587082923245567, q1), (46116860184273879039, q2), (92233720368547758094, x4 - 1), (74939897799445053439, q4)] (by intro p hp; simp at hp; (repeat' (first | (rcases hp with rfl | hp) | (obtain rfl := hp))) <;> exact ⟨by omega, by simp [Den.symHi]; omega⟩)) (rargs := [.int .i64 a0, .int .i64 a1, .int .i64 a2]) w Den.KK.run_IterLost_2_0_1t15 fun G w => ?_
        exact (.cons _ _ _ _ (Den.VR.intE (by simp [Den.SI.val, Den.valT, Den.KK.vlOf]; omega)) (.cons _ _ _ _ (Den.VR.intE (by simp [Den.SI.val, Den.valT, Den.KK.vlOf]; omega)) (.cons _ _ _ _ (Den.VR.intE (by simp [Den.SI.val, Den.valT, Den.KK.vlOf]; omega)) .nil)))
    | 1, _, e1 =>
      rcases (by omega : x4 = 0 ∨ (1 ≤ x4 ∧ x4 ≤ 15)) with hy2 | hy2
      ·
        refine Den.KK.law_calls (ρ := Den.KK.vlOf [(20752587082923245567, q1), (46116860184273879039, q2), (74939897799445053439, q4)] (by intro p hp; simp at hp; (repeat' (first | (rcases hp with rfl | hp) | (obtain rfl := hp))) <;> exact ⟨by omega, by simp [Den.symHi]; omega⟩)) (rargs := [.int .i64 a0, .int .i64 a1, .int .i64 a2]) w Den.KK.run_IterLost_2_1_0 fun G w => ?_
        exact (.cons _ _ _ _ (Den.VR.intE (by simp [Den.SI.val, Den.valT, Den.KK.vlOf]; omega)) (.cons _ _ _ _ (Den.VR.intE (by simp [Den.SI.val, Den.valT, Den.KK.vlOf]; omega)) (.cons _ _ _ _ (Den.VR.intE (by simp [Den.SI.val, Den.valT, Den.KK.vlOf]; omega)) .nil)))
      ·
        refine Den.KK.law_calls (ρ := Den.KK.vlOf [(20752587082923245567, q1), (46116860184273879039, q2), (92233720368547758094, x4 - 1), (74939897799445053439, q4)] (by intro p hp; simp at hp; (repeat' (first | (rcases hp with rfl | hp) | (obtain rfl := hp))) <;> exact ⟨by omega, by simp [Den.symHi]; omega⟩)) (rargs := [.int .i64 a0, .int .i64 a1, .int .i64 a2]) w Den.KK.run_IterLost_2_1_1t15 fun G w => ?_
        exact (.cons _ _ _ _ (Den.VR.intE (by simp [Den.SI.val, Den.valT, Den.KK.vlOf]; omega)) (.cons _ _ _ _ (Den.VR.intE (by simp [Den.SI.val, Den.valT, Den.KK.vlOf]; omega)) (.cons _ _ _ _ (Den.VR.intE (by simp [Den.SI.val, Den.valT, Den.KK.vlOf]; omega)) .nil)))
  | 3, _, e0 =>
    match r1, hr1, e1 with
    | 0, _, e1 =>
      rcases (by omega : x4 = 0 ∨ (1 ≤ x4 ∧ x4 ≤ 15)) with hy2 | hy2
      ·
        refine Den.KK.law_calls (ρ := Den.KK.vlOf [(20752587082923245567, q1), (46116860184273879039, q2), (74939897799445053439, q4)] (by intro p hp; simp at hp; (repeat' (first | (rcases hp with rfl | hp) | (obtain rfl := hp))) <;> exact ⟨by omega, by simp [Den.symHi]; omega⟩)) (rargs := [.int .i64 a0, .int .i64 a1, .int .i64 a2]) w Den.KK.run_IterLost_3_0_0 fun G w => ?_
        exact (.cons _ _ _ _ (Den.VR.intE (by simp [Den.SI.val, Den.valT, Den.KK.vlOf]; omega)) (.cons _ _ _ _ (Den.VR.intE (by simp [Den.SI.val, Den.valT, Den.KK.vlOf]; omega)) (.cons _ _ _ _ (Den.VR.intE (by simp [Den.SI.val, Den.valT, Den.KK.vlOf]; omega)) .nil)))
      ·
        refine Den.KK.law_calls (ρ := Den.KK.vlOf [(20752587082923245567, q1), (46116860184273879039, q2), (92233720368547758094, x4 - 1), (74939897799445053439, q4)] (by intro p hp; simp at hp; (repeat' (first | (rcases hp with rfl | hp) | (obtain rfl := hp))) <;> exact ⟨by omega, by simp [Den.symHi]; omega⟩)) (rargs := [.int .i64 a0, .int .i64 a1, .int .i64 a2]) w Den.KK.run_IterLost_3_0_1t15 fun G w => ?_
        exact (.cons _ _ _ _ (Den.VR.intE (by simp [Den.SI.val, Den.valT, Den.KK.vlOf]; omega)) (.cons _ _ _ _ (Den.VR.intE (by simp [Den.SI.val, Den.valT, Den.KK.vlOf]; omega)) (.cons _ _ _ _ (Den.VR.intE (by simp [Den.SI.val, Den.valT, Den.KK.vlOf]; omega)) .nil)))
    | 1, _, e1 =>
      rcases (by omega : x4 = 0 ∨ (1 ≤ x4 ∧ x4 ≤ 15)) with hy2 | hy2
      ·
        refine Den.KK.law_calls (ρ := Den.KK.vlOf [(20752587082923245567, q1), (46116860184273879039, q2), (74939897799445053439, q4)] (by intro p hp; simp at hp; (repeat' (first | (rcases hp with rfl | hp) | (obtain rfl := hp))) <;> exact ⟨by omega, by simp [Den.symHi]; omega⟩)) (rargs := [.int .i64 a0, .int .i64 a1, .int .i64 a2]) w Den.KK.run_IterLost_3_1_0 fun G w => ?_
        exact (.cons _ _ _ _ (Den.VR.intE (by simp [Den.SI.val, Den.valT, Den.KK.vlOf]; omega)) (.cons _ _ _ _ (Den.VR.intE (by simp [Den.SI.val, Den.valT, Den.KK.vlOf]; omega)) (.cons _ _ _ _ (Den.VR.intE (by simp [Den.SI.val, Den.valT, Den.KK.vlOf]; omega)) .nil)))
      ·
        refine Den.KK.law_calls (ρ := Den.KK.vlOf [(20752587082923245567, q1), (46116860184273879039, q2), (92233720368547758094, x4 - 1), (74939897799445053439, q4)] (by intro p hp; simp at hp; (repeat' (first | (rcases hp with rfl | hp) | (obtain rfl := hp))) <;> exact ⟨by omega, by simp [Den.symHi]; omega⟩)) (rargs := [.int .i64 a0, .int .i64 a1, .int .i64 a2]) w Den.KK.run_IterLost_3_1_1t15 fun G w => ?_
        exact (.cons _ _ _ _ (Den.VR.intE (by simp [Den.SI.val, Den.valT, Den.KK.vlOf]; omega)) (.cons _ _ _ _ (Den.VR.intE (by simp [Den.SI.val, Den.valT, Den.KK.vlOf]; omega)) (.cons _ _ _ _ (Den.VR.intE (by simp [Den.SI.val, Den.valT, Den.KK.vlOf]; omega)) .nil)))
  | 4, _, e0 =>
    match r1, hr1, e1 with
    | 0, _, e1 =>
      rcases (by omega : x4 = 0 ∨ (1 ≤ x4 ∧ x4 ≤ 15)) with hy2 | hy2
      ·
        refine Den.KK.law_calls (ρ := Den.KK.vlOf [(20752587082923245567, q1), (46116860184273879039, q2), (74939897799445053439, q4)] (by intro p hp; simp at hp; (repeat' (first | (rcases hp with rfl | hp) | (obtain rfl := hp))) <;> exact ⟨by omega, by simp [Den.symHi]; omega⟩)) (rargs := [.int .i64 a0, .int .i64 a1, .int .i64 a2]) w Den.KK.run_IterLost_4_0_0 fun G w => ?_
        exact (.cons _ _ _ _ (Den.VR.intE (by simp [Den.SI.val, Den.valT, Den.KK.vlOf]; omega)) (.cons _ _ _ _ (Den.VR.intE (by simp [Den.SI.val, Den.valT, Den.KK.vlOf]; omega)) (.cons _ _ _ _ (Den.VR.intE (by simp [Den.SI.val, Den.valT, Den.KK.vlOf]; omega)) .nil)))
      ·
        refine Den.KK.law_calls (ρ := Den.KK.vlOf [(20752587082923245567, q1), (46116860184273879039, q2), (92233720368547758094, x4 - 1), (74939897799445053439, q4)] (by intro p hp; simp at hp; (repeat' (first | (rcases hp with rfl | hp) | (obtain rfl := hp))) <;> exact ⟨by omega, by simp [Den.symHi]; omega⟩)) (rargs := [.int .i64 a0, .int .i64 a1, .int .i64 a2]) w Den.KK.run_IterLost_4_0_1t15 fun G w => ?_
        exact (.cons _ _ _ _ (Den.VR.intE (by simp [Den.SI.val, Den.valT, Den.KK.vlOf]; omega)) (.cons _ _ _ _ (Den.VR.intE (by simp [Den.SI.val, Den.valT, Den.KK.vlOf]; omega)) (.cons _ _ _ _ (Den.VR.intE (by simp [Den.SI.val, Den.valT, Den.KK.vlOf]; omega)) .nil)))
    | 1, _, e1 =>
      rcases (by omega : x4 = 0 ∨ (1 ≤ x4 ∧ x4 ≤ 15)) with hy2 | hy2
      ·
        refine Den.KK.law_calls (ρ := Den.KK.vlOf [(20752587082923245567, q1), (46116860184273879039, q2), (74939897799445053439, q4)] (by intro p hp; simp at hp; (repeat' (first | (rcases hp with rfl | hp) | (obtain rfl := hp))) <;> exact ⟨by omega, by simp [Den.symHi]; omega⟩)) (rargs := [.int .i64 a0, .int .i64 a1, .int .i64 a2]) w Den.KK.run_IterLost_4_1_0 fun G w => ?_
        exact (.cons _ _ _ _ (Den.VR.intE (by simp [Den.SI.val, Den.valT, Den.KK.vlOf]; omega)) (.cons _ _ _ _ (Den.VR.intE (by simp [Den.SI.val, Den.valT, Den.KK.vlOf]; omega)) (.cons _ _ _ _ (Den.VR.intE (by simp [Den.SI.val, Den.valT, Den.KK.vlOf]; omega)) .nil)))
      ·
        refine Den.KK.law_calls (ρ := Den.KK.vlOf [(20752587082923245567, q1), (46116860184273879039, q2), (92233720368547758094, x4 - 1), (74939897799445053439, q4)] (by intro p hp; simp at hp; (repeat' (first | (rcases hp with rfl | hp) | (obtain rfl := hp))) <;> exact ⟨by omega, by simp [Den.symHi]; omega⟩)) (rargs := [.int .i64 a0, .int .i64 a1, .int .i64 a2]) w Den.KK.run_IterLost_4_1_1t15 fun G w => ?_
        exact (.cons _ _ _ _ (Den.VR.intE (by simp [Den.SI.val, Den.valT, Den.KK.vlOf]; omega)) (.cons _ _ _ _ (Den.VR.intE (by simp [Den.SI.val, Den.valT, Den.KK.vlOf]; omega)) (.cons _ _ _ _ (Den.VR.intE (by simp [Den.SI.val, Den.valT, Den.KK.vlOf]; omega)) .nil)))
  | 5, _, e0 =>
    match r1, hr1, e1 with
    | 0, _, e1 =>
      rcases (by omega : x4 = 0 ∨ (1 ≤ x4 ∧ x4 ≤ 15)) with hy2 | hy2
      ·
        refine Den.KK.law_calls (ρ := Den.KK.vlOf [(20752587082923245567, q1), (46116860184273879039, q2), (74939897799445053439, q4)] (by intro p hp; simp at hp; (repeat' (first | (rcases hp with rfl | hp) | (obtain rfl := hp))) <;> exact ⟨by omega, by simp [Den.symHi]; omega⟩)) (rargs := [.int .i64 a0, .int .i64 a1, .int .i64 a2]) w Den.KK.run_IterLost_5_0_0 fun G w => ?_
        exact (.cons _ _ _ _ (Den.VR.intE (by simp [Den.SI.val, Den.valT, Den.KK.vlOf]; omega)) (.cons _ _ _ _ (Den.VR.intE (by simp [Den.SI.val, Den.valT, Den.KK.vlOf]; omega)) (.cons _ _ _ _ (Den.VR.intE (by simp [Den.SI.val, Den.valT, Den.KK.vlOf]; omega)) .nil)))
      ·
        refine Den.KK.law_calls (ρ := Den.KK.vlOf [(20752587082923245567, q1), (46116860184273879039, q2), (92233720368547758094, x4 - 1), (74939897799445053439, q4)] (by intro p hp; simp at hp; (repeat' (first | (rcases hp with rfl | hp) | (obtain rfl := hp))) <;> exact ⟨by omega, by simp [Den.symHi]; omega⟩)) (rargs := [.int .i64 a0, .int .i64 a1, .int .i64 a2]) w Den.KK.run_IterLost_5_0_1t15 fun G w => ?_
        exact (.cons _ _ _ _ (Den.VR.intE (by simp [Den.SI.val, Den.valT, Den.KK.vlOf]; omega)) (.cons _ _ _ _ (Den.VR.intE (by simp [Den.SI.val, Den.valT, Den.KK.vlOf]; omega)) (.cons _ _ _ _ (Den.VR.intE (by simp [Den.SI.val, Den.valT, Den.KK.vlOf]; omega)) .nil)))
    | 1, _, e1 =>
      rcases (by omega : x4 = 0 ∨ (1 ≤ x4 ∧ x4 ≤ 15)) with hy2 | hy2
      ·
        refine Den.KK.law_calls (ρ := Den.KK.vlOf [(20752587082923245567, q1), (46116860184273879039, q2), (74939897799445053439, q4)] (by intro p hp; simp at hp; (repeat' (first | (rcases hp with rfl | hp) | (obtain rfl := hp))) <;> exact ⟨by omega, by simp [Den.symHi]; omega⟩)) (rargs := [.int .i64 a0, .int .i64 a1, .int .i64 a2]) w Den.KK.run_IterLost_5_1_0 fun G w => ?_
        exact (.cons _ _ _ _ (Den.VR.intE (by simp [Den.SI.val, Den.valT, Den.KK.vlOf]; omega)) (.cons _ _ _ _ (Den.VR.intE (by simp [Den.SI.val, Den.valT, Den.KK.vlOf]; omega)) (.cons _ _ _ _ (Den.VR.intE (by simp [Den.SI.val, Den.valT, Den.KK.vlOf]; omega)) .nil)))
      ·
        refine Den.KK.law_calls (ρ := Den.KK.vlOf [(20752587082923245567, q1), (46116860184273879039, q2), (92233720368547758094, x4 - 1), (74939897799445053439, q4)] (by intro p hp; simp at hp; (repeat' (first | (rcases hp with rfl | hp) | (obtain rfl := hp))) <;> exact ⟨by omega, by simp [Den.symHi]; omega⟩)) (rargs := [.int .i64 a0, .int .i64 a1, .int .i64 a2]) w Den.KK.run_IterLost_5_1_1t15 fun G w => ?_
        exact (.cons _ _ _ _ (Den.VR.intE (by simp [Den.SI.val, Den.valT, Den.KK.vlOf]; omega)) (.cons _ _ _ _ (Den.VR.intE (by simp [Den.SI.val, Den.valT, Den.KK.vlOf]; omega)) (.cons _ _ _ _ (Den.VR.intE (by simp [Den.SI.val, Den.valT, Den.KK.vlOf]; omega)) .nil)))
  | 6, _, e0 =>
    match r1, hr1, e1 with
    | 0, _, e1 =>
      rcases (by omega : x4 = 0 ∨ (1 ≤ x4 ∧ x4 ≤ 15)) with hy2 | hy2
      ·
        refine Den.KK.law_calls (ρ := Den.KK.vlOf [(20752587082923245567, q1), (46116860184273879039, q2), (74939897799445053439, q4)] (by intro p hp; simp at hp; (repeat' (first | (rcases hp with rfl | hp) | (obtain rfl := hp))) <;> exact ⟨by omega, by simp [Den.symHi]; omega⟩)) (rargs := [.int .i64 a0, .int .i64 a1, .int .i64 a2]) w Den.KK.run_IterLost_6_0_0 fun G w => ?_
        exact (.cons _ _ _ _ (Den.VR.intE (by simp [Den.SI.val, Den.valT, Den.KK.vlOf]; omega)) (.cons _ _ _ _ (Den.VR.intE (by simp [Den.SI.val, Den.valT, Den.KK.vlOf]; omega)) (.cons _ _ _ _ (Den.VR.intE (by simp [Den.SI.val, Den.valT, Den.KK.vlOf]; omega)) .nil)))
      ·
        refine Den.KK.law_calls (ρ := Den.KK.vlOf [(20752587082923245567, q1), (46116860184273879039, q2), (92233720368547758094, x4 - 1), (74939897799445053439, q4)] (by intro p hp; simp at hp; (repeat' (first | (rcases hp with rfl | hp) | (obtain rfl := hp))) <;> exact ⟨by omega, by simp [Den.symHi]; omega⟩)) (rargs := [.int .i64 a0, .int .i64 a1, .int .i64 a2]) w Den.KK.run_IterLost_6_0_1t15 fun G w => ?_
        exact (.cons _ _ _ _ (Den.VR.intE (by simp [Den.SI.val, Den.valT, Den.KK.vlOf]; omega)) (.cons _ _ _ _ (Den.VR.intE (by simp [Den.SI.val, Den.valT, Den.KK.vlOf]; omega)) (.cons _ _ _ _ (Den.VR.intE (by simp [Den.SI.val, Den.valT, Den.KK.vlOf]; omega)) .nil)))
    | 1, _, e1 =>
      rcases (by omega : x4 = 0 ∨ (1 ≤ x4 ∧ x4 ≤ 15)) with hy2 | hy2
      ·
        refine Den.KK.law_calls (ρ := Den.KK.vlOf [(20752587082923245567, q1), (46116860184273879039, q2), (74939897799445053439, q4)] (by intro p hp; simp at hp; (repeat' (first | (rcases hp with rfl | hp) | (obtain rfl := hp))) <;> exact ⟨by omega, by simp [Den.symHi]; omega⟩)) (rargs := [.int .i64 a0, .int .i64 a1, .int .i64 a2]) w Den.KK.run_IterLost_6_1_0 fun G w => ?_
        exact (.cons _ _ _ _ (Den.VR.intE (by simp [Den.SI.val, Den.valT, Den.KK.vlOf]; omega)) (.cons _ _ _ _ (Den.VR.intE (by simp [Den.SI.val, Den.valT, Den.KK.vlOf]; omega)) (.cons _ _ _ _ (Den.VR.intE (by simp [Den.SI.val, Den.valT, Den.KK.vlOf]; omega)) .nil)))
      ·
        refine Den.KK.law_calls (ρ := Den.KK.vlOf [(20752587082923245567, q1), (46116860184273879039, q2), (92233720368547758094, x4 - 1), (74939897799445053439, q4)] (by intro p hp; simp at hp; (repeat' (first | (rcases hp with rfl | hp) | (obtain rfl := hp))) <;> exact ⟨by omega, by simp [Den.symHi]; omega⟩)) (rargs := [.int .i64 a0, .int .i64 a1, .int .i64 a2]) w Den.KK.run_IterLost_6_1_1t15 fun G w => ?_
        exact (.cons _ _ _ _ (Den.VR.intE (by simp [Den.SI.val, Den.valT, Den.KK.vlOf]; omega)) (.cons _ _ _ _ (Den.VR.intE (by simp [Den.SI.val, Den.valT, Den.KK.vlOf]; omega)) (.cons _ _ _ _ (Den.VR.intE (by simp [Den.SI.val, Den.valT, Den.KK.vlOf]; omega)) .nil)))
  | 7, _, e0 =>
    match r1, hr1, e1 with
    | 0, _, e1 =>
      rcases (by omega : x4 = 0 ∨ (1 ≤ x4 ∧ x4 ≤ 15)) with hy2 | hy2
      ·
        refine Den.KK.law_calls (ρ := Den.KK.vlOf [(20752587082923245567, q1), (46116860184273879039, q2), (74939897799445053439, q4)] (by intro p hp; simp at hp; (repeat' (first | (rcases hp with rfl | hp) | (obtain rfl := hp))) <;> exact ⟨by omega, by simp [Den.symHi]; omega⟩)) (rargs := [.int .i64 a0, .int .i64 a1, .int .i64 a2]) w Den.KK.run_IterLost_7_0_0 fun G w => ?_
        exact (.cons _ _ _ _ (Den.VR.intE (by simp [Den.SI.val, Den.valT, Den.KK.vlOf]; omega)) (.cons _ _ _ _ (Den.VR.intE (by simp [Den.SI.val, Den.valT, Den.KK.vlOf]; omega)) (.cons _ _ _ _ (Den.VR.intE (by simp [Den.SI.val, Den.valT, Den.KK.vlOf]; omega)) .nil)))
      ·
        refine Den.KK.law_calls (ρ := Den.KK.vlOf [(20752587082923245567, q1), (46116860184273879039, q2), (92233720368547758094, x4 - 1), (74939897799445053439, q4)] (by intro p hp; simp at hp; (repeat' (first | (rcases hp with rfl | hp) | (obtain rfl := hp))) <;> exact ⟨by omega, by simp [Den.symHi]; omega⟩)) (rargs := [.int .i64 a0, .int .i64 a1, .int .i64 a2]) w Den.KK.run_IterLost_7_0_1t15 fun G w => ?_
        exact (.cons _ _ _ _ (Den.VR.intE (by simp [Den.SI.val, Den.valT, Den.KK.vlOf]; omega)) (.cons _ _ _ _ (Den.VR.intE (by simp [Den.SI.val, Den.valT, Den.KK.vlOf]; omega)) (.cons _ _ _ _ (Den.VR.intE (by simp [Den.SI.val, Den.valT, Den.KK.vlOf]; omega)) .nil)))
    | 1, _, e1 =>
      rcases (by omega : x4 = 0 ∨ (1 ≤ x4 ∧ x4 ≤ 15)) with hy2 | hy2
      ·
        refine Den.KK.law_calls (ρ := Den.KK.vlOf [(20752587082923245567, q1), (46116860184273879039, q2), (74939897799445053439, q4)] (by intro p hp; simp at hp; (repeat' (first | (rcases hp with rfl | hp) | (obtain rfl := hp))) <;> exact ⟨by omega, by simp [Den.symHi]; omega⟩)) (rargs := [.int .i64 a0, .int .i64 a1, .int .i64 a2]) w Den.KK.run_IterLost_7_1_0 fun G w => ?_
        exact (.cons _ _ _ _ (Den.VR.intE (by simp [Den.SI.val, Den.valT, Den.KK.vlOf]; omega)) (.cons _ _ _ _ (Den.VR.intE (by simp [Den.SI.val, Den.valT, Den.KK.vlOf]; omega)) (.cons _ _ _ _ (Den.VR.intE (by simp [Den.SI.val, Den.valT, Den.KK.vlOf]; omega)) .nil)))
      ·
        refine Den.KK.law_calls (ρ := Den.KK.vlOf [(20752587082923245567, q1), (46116860184273879039, q2), (92233720368547758094, x4 - 1), (74939897799445053439, q4)] (by intro p hp; simp at hp; (repeat' (first | (rcases hp with rfl | hp) | (obtain rfl := hp))) <;> exact ⟨by omega, by simp [Den.symHi]; omega⟩)) (rargs := [.int .i64 a0, .int .i64 a1, .int .i64 a2]) w Den.KK.run_IterLost_7_1_1t15 fun G w => ?_
        exact (.cons _ _ _ _ (Den.VR.intE (by simp [Den.SI.val, Den.valT, Den.KK.vlOf]; omega)) (.cons _ _ _ _ (Den.VR.intE (by simp [Den.SI.val, Den.valT, Den.KK.vlOf]; omega)) (.cons _ _ _ _ (Den.VR.intE (by simp [Den.SI.val, Den.valT, Den.KK.vlOf]; omega)) .nil)))

set_option maxRecDepth 100000 in
theorem lifted (os : Os) (started : os.Started) (H : Type) (enc : TypeId × Value → H) :
    ReturnsInHanded {} Tryz.checked os 5 .any (Rows.iterLostSpec.pre6 enc Tryz.prog Tryz.f5 Rows.iterLostRow.domain false) (Rows.iterLostSpec.post enc Tryz.prog Tryz.f5 false true false false) := by
  refine returnsInHanded_of_change (C := Tryz.checked) own started (by kernel_rfl) Tryz.func5
    (ChangeSpec.witness6 (enc := enc) (C := Tryz.checked) false ⟨#[], #[.int .i64 0, .int .i64 0, .int .i64 0], []⟩ 8 (by kernel_rfl) (by kernel_rfl) (by kernel_rfl) (by kernel_rfl)) ?_
  intro W base args ds gs before hval0 hW hcnd _
  have hval : ∀ (j : Nat) t v, Tryz.f5.params[j]? = some t → args[j]? = some v → Value.okWide Tryz.prog W .any base t v := hval0
  have hW' := hW
  obtain ⟨p, q, hA0, hV, rfl, hfz, hnd⟩ := hW
  have hA : DataW.TrodAll enc Tryz.prog W 0 (fun _ => true) true Tryz.f5.params.toList args.toList ds p := hA0
  rw [Tryz.params5] at hA hval
  obtain ⟨v0, vs0, d0, ds0, p0, q0, hargs, rfl, rfl, h0, r0⟩ := trodAll_cons hA
  obtain ⟨v1, vs1, d1, ds1, p1, q1, rfl, rfl, rfl, h1, r1⟩ := trodAll_cons r0
  obtain ⟨v2, vs2, d2, ds2, p2, q2, rfl, rfl, rfl, h2, r2⟩ := trodAll_cons r1
  obtain ⟨rfl, rfl, rfl⟩ := trodAll_nil r2
  obtain rfl : args = #[v0, v1, v2] := by cases args; simp_all
  obtain ⟨rfl, rfl⟩ := trodVars_none hV
  obtain ⟨a0, rfl, rfl, rfl, w0⟩ := open_int Tryz.underlying3 (hval 0 3 v0 rfl rfl) h0
  obtain ⟨a1, rfl, rfl, rfl, w1⟩ := open_int Tryz.underlying3 (hval 1 3 v1 rfl rfl) h1
  obtain ⟨a2, rfl, rfl, rfl, w2⟩ := open_int Tryz.underlying3 (hval 2 3 v2 rfl rfl) h2
  clear hA0 hval0
  simp only [List.append_nil] at hW'
  refine (walk a0 w0 a1 w1 a2 w2 W).mono fun e W' ⟨he, hg⟩ => ?_
  subst he
  exact ⟨_, rfl, Den.post_plain hW' (fun _ _ _ => (trodAll_cons_mk (shut_bool Tryz.underlying4 _) trodAll_mk0)) (fun sp => (trodAll_cons_mk (shut_int Tryz.underlying3 w0) (trodAll_cons_mk (shut_int Tryz.underlying3 w1) (trodAll_cons_mk (shut_int Tryz.underlying3 w2) trodAll_mk0)))) (fun _ => rfl)
    hg (ok_one (by kernel_rfl) rfl (okWide_bool_mk Tryz.underlying4 _))⟩

set_option maxHeartbeats 0 in
set_option maxRecDepth 100000 in
theorem closed : joinedFacts Tryz.prog 5 Tryz.f5 Rows.iterLostSpec Rows.iterLostRow = true := by
  unfold joinedFacts
  repeat' (with_reducible refine Bool.and_eq_true_iff.2 ⟨?_, ?_⟩)
  all_goals (as_aux_lemma => kernel_rfl)
theorem over : Rows.iterLostRow.holds Tryz.pinned (OpenSpec.ofChange Rows.iterLostSpec) :=
  OpenClaim.holds_of_wide 5 Tryz.f5 rfl rfl rfl rfl rfl rfl rfl ⟨rfl, rfl, rfl, rfl, rfl⟩ rfl rfl rfl rfl rfl (by as_aux_lemma => kernel_rfl) Tryz.func5 closed
    (of_decide_eq_true (by as_aux_lemma => kernel_rfl)) (by unfold Func.isWrapper; first | (rw [if_pos (by decide +kernel)]; kernel_rfl) | (rw [if_neg (by decide +kernel)]; exact ⟨rfl, rfl⟩))
    (fun os started H enc _ => lifted os started H enc)

theorem proved : Rows.IterLostSaid := over
end Go.Proofs.YtlldjadlhgonbaaGreat.iterLost
