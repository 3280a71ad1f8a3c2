/-
  Proved: for every input wimplelaw24.IterHosts returns true, and its arguments read behind the call as they read before. No condition is added: the arguments are parted into cases, and each case is run by the kernel on an abstract machine that is proved to speak of every run of the model. 
-/
import Derived.Test.YtlldjadlhgonbaaGreatRows
import Derived.Test.YtlldjadlhgonbaaGreatDenVN
import Derived.Test.YtlldjadlhgonbaaGreatHostsAA
import Derived.Test.YtlldjadlhgonbaaGreatHostsAB
import Derived.Test.YtlldjadlhgonbaaGreatHostsAC
import Derived.WalkKit
import Derived.ProofKit
import Derived.OpenShut
namespace Go.Proofs.YtlldjadlhgonbaaGreat.iterHosts
open Go.ChangeShapes Go.WideShapes Go.ChangeAt Go.RowKit
set_option linter.unusedVariables false

theorem own : ownKnob Tryz.prog.godebug = none := by kernel_rfl

theorem walk (a0 : Int) (w0 : (Lit.int .i64 a0).wf = true) (a1 : Int) (w1 : (Lit.int .i64 a1).wf = true) (w : World) :
    Calls Tryz.prog 7 #[.int .i64 a0, .int .i64 a1] w fun e w' => e = .returned (.bool true) ∧ Below w.heap.size w w' := by
  obtain ⟨b01, b02⟩ := Den.KK.bound64 w0
  obtain ⟨q1, c1, r0, e0, hr0, hc01, hc02, hq01, hq02⟩ : ∃ (q c : Int) (r : Nat), a0 = (r : Int) + 5 * q - 18446744073709551616 * c ∧ r < 5 ∧ 0 ≤ c ∧ c ≤ 1 ∧ 0 ≤ q ∧ (r : Int) + 5 * q ≤ 18446744073709551615 := by
    by_cases hn : a0 < 0
    · exact ⟨(a0 + 18446744073709551616) / 5, 1, ((a0 + 18446744073709551616) % 5).toNat, by omega, by omega, by omega, by omega, by omega, by omega⟩
    · exact ⟨a0 / 5, 0, (a0 % 5).toNat, by omega, by omega, by omega, by omega, by omega, by omega⟩
  obtain ⟨b11, b12⟩ := Den.KK.bound64 w1
  obtain ⟨q4, x4, e1, hx11, hx12, hq11, hq12⟩ : ∃ q x : Int, a1 = x - 9223372036854775808 + 256 * q ∧ 0 ≤ x ∧ x < 256 ∧ 0 ≤ q ∧ q ≤ 72057594037927935 :=
    ⟨(a1 + 9223372036854775808) / 256, (a1 + 9223372036854775808) % 256, by omega, by omega, by omega, by omega, by omega⟩
  match r0, hr0, e0, hq02 with
  | 0, _, e0, hq02 =>
    refine Den.KK.law_calls (ρ := Den.KK.vlOf [(22136092888451461939, q1), (36893488147419103233, c1), (92233720368547758335, x4), (73859033888876134399, q4)] (by intro p hp; simp at hp; (repeat' (first | (rcases hp with rfl | hp) | (obtain rfl := hp))) <;> exact ⟨by omega, by simp [Den.symHi]; omega⟩)) (rargs := [.int .i64 a0, .int .i64 a1]) w Den.KK.run_IterHosts_0_s0 fun G w => ?_
    exact (.cons _ _ _ _ (Den.VR.intE (by simp [Den.SI.val, Den.valT, Den.KK.vlOf]; omega)) (.cons _ _ _ _ (Den.VR.intE (by simp [Den.SI.val, Den.valT, Den.KK.vlOf]; omega)) .nil))
  | 1, _, e0, hq02 =>
    refine Den.KK.law_calls (ρ := Den.KK.vlOf [(22136092888451461938, q1), (36893488147419103233, c1), (92233720368547758335, x4), (73859033888876134399, q4)] (by intro p hp; simp at hp; (repeat' (first | (rcases hp with rfl | hp) | (obtain rfl := hp))) <;> exact ⟨by omega, by simp [Den.symHi]; omega⟩)) (rargs := [.int .i64 a0, .int .i64 a1]) w Den.KK.run_IterHosts_1_s0 fun G w => ?_
    exact (.cons _ _ _ _ (Den.VR.intE (by simp [Den.SI.val, Den.valT, Den.KK.vlOf]; omega)) (.cons _ _ _ _ (Den.VR.intE (by simp [Den.SI.val, Den.valT, Den.KK.vlOf]; omega)) .nil))
  | 2, _, e0, hq02 =>
    refine Den.KK.law_calls (ρ := Den.KK.vlOf [(22136092888451461938, q1), (36893488147419103233, c1), (92233720368547758335, x4), (73859033888876134399, q4)] (by intro p hp; simp at hp; (repeat' (first | (rcases hp with rfl | hp) | (obtain rfl := hp))) <;> exact ⟨by omega, by simp [Den.symHi]; omega⟩)) (rargs := [.int .i64 a0, .int .i64 a1]) w Den.KK.run_IterHosts_2_s0 fun G w => ?_
    exact (.cons _ _ _ _ (Den.VR.intE (by simp [Den.SI.val, Den.valT, Den.KK.vlOf]; omega)) (.cons _ _ _ _ (Den.VR.intE (by simp [Den.SI.val, Den.valT, Den.KK.vlOf]; omega)) .nil))
  | 3, _, e0, hq02 =>
    refine Den.KK.law_calls (ρ := Den.KK.vlOf [(22136092888451461938, q1), (36893488147419103233, c1), (92233720368547758335, x4), (73859033888876134399, q4)] (by intro p hp; simp at hp; (repeat' (first | (rcases hp with rfl | hp) | (obtain rfl := hp))) <;> exact ⟨by omega, by simp [Den.symHi]; omega⟩)) (rargs := [.int .i64 a0, .int .i64 a1]) w Den.KK.run_IterHosts_3_s0 fun G w => ?_
    exact (.cons _ _ _ _ (Den.VR.intE (by simp [Den.SI.val, Den.valT, Den.KK.vlOf]; omega)) (.cons _ _ _ _ (Den.VR.intE (by simp [Den.SI.val, Den.valT, Den.KK.vlOf]; omega)) .nil))
  | 4, _, e0, hq02 =>
    refine Den.KK.law_calls (ρ := Den.KK.vlOf [(22136092888451461938, q1), (36893488147419103233, c1), (92233720368547758335, x4), (73859033888876134399, q4)] (by intro p hp; simp at hp; (repeat' (first | (rcases hp with rfl | hp) | (obtain rfl := hp))) <;> exact ⟨by omega, by simp [Den.symHi]; omega⟩)) (rargs := [.int .i64 a0, .int .i64 a1]) w Den.KK.run_IterHosts_4_s0 fun G w => ?_
    exact (.cons _ _ _ _ (Den.VR.intE (by simp [Den.SI.val, Den.valT, Den.KK.vlOf]; omega)) (.cons _ _ _ _ (Den.VR.intE (by simp [Den.SI.val, Den.valT, Den.KK.vlOf]; omega)) .nil))

set_option maxRecDepth 100000 in
theorem lifted (os : Os) (started : os.Started) (H : Type) (enc : TypeId × Value → H) :
    ReturnsInHanded {} Tryz.checked os 7 .any (Rows.iterHostsSpec.pre6 enc Tryz.prog Tryz.f7 Rows.iterHostsRow.domain false) (Rows.iterHostsSpec.post enc Tryz.prog Tryz.f7 false true false false) := by
  refine returnsInHanded_of_change (C := Tryz.checked) own started (by kernel_rfl) Tryz.func7
    (ChangeSpec.witness6 (enc := enc) (C := Tryz.checked) false ⟨#[], #[.int .i64 0, .int .i64 0], []⟩ 8 (by kernel_rfl) (by kernel_rfl) (by kernel_rfl) (by kernel_rfl)) ?_
  intro W base args ds gs before hval0 hW hcnd _
  have hval : ∀ (j : Nat) t v, Tryz.f7.params[j]? = some t → args[j]? = some v → Value.okWide Tryz.prog W .any base t v := hval0
  have hW' := hW
  obtain ⟨p, q, hA0, hV, rfl, hfz, hnd⟩ := hW
  have hA : DataW.TrodAll enc Tryz.prog W 0 (fun _ => true) true Tryz.f7.params.toList args.toList ds p := hA0
  rw [Tryz.params7] at hA hval
  obtain ⟨v0, vs0, d0, ds0, p0, q0, hargs, rfl, rfl, h0, r0⟩ := trodAll_cons hA
  obtain ⟨v1, vs1, d1, ds1, p1, q1, rfl, rfl, rfl, h1, r1⟩ := trodAll_cons r0
  obtain ⟨rfl, rfl, rfl⟩ := trodAll_nil r1
  obtain rfl : args = #[v0, v1] := by cases args; simp_all
  obtain ⟨rfl, rfl⟩ := trodVars_none hV
  obtain ⟨a0, rfl, rfl, rfl, w0⟩ := open_int Tryz.underlying3 (hval 0 3 v0 rfl rfl) h0
  obtain ⟨a1, rfl, rfl, rfl, w1⟩ := open_int Tryz.underlying3 (hval 1 3 v1 rfl rfl) h1
  clear hA0 hval0
  simp only [List.append_nil] at hW'
  refine (walk a0 w0 a1 w1 W).mono fun e W' ⟨he, hg⟩ => ?_
  subst he
  exact ⟨_, rfl, Den.post_plain hW' (fun _ _ _ => (trodAll_cons_mk (shut_bool Tryz.underlying4 _) trodAll_mk0)) (fun sp => (trodAll_cons_mk (shut_int Tryz.underlying3 w0) (trodAll_cons_mk (shut_int Tryz.underlying3 w1) trodAll_mk0))) (fun _ => rfl)
    hg (ok_one (by kernel_rfl) rfl (okWide_bool_mk Tryz.underlying4 _))⟩

set_option maxHeartbeats 0 in
set_option maxRecDepth 100000 in
theorem closed : joinedFacts Tryz.prog 7 Tryz.f7 Rows.iterHostsSpec Rows.iterHostsRow = true := by
  unfold joinedFacts
  repeat' (with_reducible refine Bool.and_eq_true_iff.2 ⟨?_, ?_⟩)
  all_goals (as_aux_lemma => kernel_rfl)
theorem over : Rows.iterHostsRow.holds Tryz.pinned (OpenSpec.ofChange Rows.iterHostsSpec) :=
  OpenClaim.holds_of_wide 7 Tryz.f7 rfl rfl rfl rfl rfl rfl rfl ⟨rfl, rfl, rfl, rfl, rfl⟩ rfl rfl rfl rfl rfl (by as_aux_lemma => kernel_rfl) Tryz.func7 closed
    (of_decide_eq_true (by as_aux_lemma => kernel_rfl)) (by unfold Func.isWrapper; first | (rw [if_pos (by decide +kernel)]; kernel_rfl) | (rw [if_neg (by decide +kernel)]; exact ⟨rfl, rfl⟩))
    (fun os started H enc _ => lifted os started H enc)

theorem proved : Rows.IterHostsSaid := over
end Go.Proofs.YtlldjadlhgonbaaGreat.iterHosts
