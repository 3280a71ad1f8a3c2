/-
  Proved: for every input wimplelaw24.IterTried returns true, and its argument reads behind the call as it read before. No condition is added: the number of hosts is parted by its rest by eight, and each of the eight calls is run by the kernel on an abstract machine that is proved to speak of every run of the model.
-/
import Derived.Test.YtlldjadlhgonbaaGreatRows
import Derived.Test.YtlldjadlhgonbaaGreatDenW
import Derived.Test.YtlldjadlhgonbaaGreatTriedA
import Derived.Test.YtlldjadlhgonbaaGreatTriedB
import Derived.Test.YtlldjadlhgonbaaGreatTriedC
import Derived.Test.YtlldjadlhgonbaaGreatTriedD
import Derived.WalkKit
import Derived.ProofKit
import Derived.OpenShut
namespace Go.Proofs.YtlldjadlhgonbaaGreat.iterTried
open Go.ChangeShapes Go.WideShapes Go.ChangeAt Go.RowKit
set_option linter.unusedVariables false

theorem own : ownKnob Tryz.prog.godebug = none := by kernel_rfl

/-- the call answers true: one run for each rest by eight -/
theorem walk (a0 : Int) (w0 : (Lit.int .i64 a0).wf = true) (w : World) :
    Calls Tryz.prog 11 #[.int .i64 a0] w fun e w' => e = .returned (.bool true) ∧ Below w.heap.size w w' := by
  obtain ⟨ρ, r, hr, hv⟩ := Den.KK.by8 w0
  have run : Den.KK.good (Den.KK.callK Den.KK.kt (Den.KK.natF 182 257) 100000 1000 11 [.int .i64 (.l ((r : Int) - 9223372036854775808) [(Den.KK.sy8, 8)])] Den.st0) = true := by
    match r, hr with
    | 0, _ => exact Den.KK.tried0
    | 1, _ => exact Den.KK.tried1
    | 2, _ => exact Den.KK.tried2
    | 3, _ => exact Den.KK.tried3
    | 4, _ => exact Den.KK.tried4
    | 5, _ => exact Den.KK.tried5
    | 6, _ => exact Den.KK.tried6
    | 7, _ => exact Den.KK.tried7
  exact Den.KK.law_calls (ρ := ρ) (rargs := [.int .i64 a0]) w run fun G w => .cons _ _ _ _ (hv G w) .nil

set_option maxRecDepth 100000 in
theorem lifted (os : Os) (started : os.Started) (H : Type) (enc : TypeId × Value → H) :
    ReturnsInHanded {} Tryz.checked os 11 .any (Rows.iterTriedSpec.pre6 enc Tryz.prog Tryz.f11 Rows.iterTriedRow.domain false) (Rows.iterTriedSpec.post enc Tryz.prog Tryz.f11 false true false false) := by
  refine returnsInHanded_of_change (C := Tryz.checked) own started (by kernel_rfl) Tryz.func11
    (ChangeSpec.witness6 (enc := enc) (C := Tryz.checked) false ⟨#[], #[.int .i64 0], []⟩ 8 (by kernel_rfl) (by kernel_rfl) (by kernel_rfl) (by kernel_rfl)) ?_
  intro W base args ds gs before hval0 hW hcnd _
  have hval : ∀ (j : Nat) t v, Tryz.f11.params[j]? = some t → args[j]? = some v → Value.okWide Tryz.prog W .any base t v := hval0
  have hW' := hW
  obtain ⟨p, q, hA0, hV, rfl, hfz, hnd⟩ := hW
  have hA : DataW.TrodAll enc Tryz.prog W 0 (fun _ => true) true Tryz.f11.params.toList args.toList ds p := hA0
  rw [Tryz.params11] at hA hval
  obtain ⟨v0, vs0, d0, ds0, p0, q0, hargs, rfl, rfl, h0, r0⟩ := trodAll_cons hA
  obtain ⟨rfl, rfl, rfl⟩ := trodAll_nil r0
  obtain rfl : args = #[v0] := by cases args; simp_all
  obtain ⟨rfl, rfl⟩ := trodVars_none hV
  obtain ⟨a0, rfl, rfl, rfl, w0⟩ := open_int Tryz.underlying3 (hval 0 3 v0 rfl rfl) h0
  clear hA0 hval0
  simp only [List.append_nil] at hW'
  refine (walk a0 w0 W).mono fun e W' ⟨he, hg⟩ => ?_
  subst he
  exact ⟨_, rfl, Den.post_plain hW' (fun _ _ _ => (trodAll_cons_mk (shut_bool Tryz.underlying4 _) trodAll_mk0)) (fun sp => (trodAll_cons_mk (shut_int Tryz.underlying3 w0) trodAll_mk0)) (fun _ => rfl)
    hg (ok_one (by kernel_rfl) rfl (okWide_bool_mk Tryz.underlying4 _))⟩

set_option maxHeartbeats 0 in
set_option maxRecDepth 100000 in
theorem closed : joinedFacts Tryz.prog 11 Tryz.f11 Rows.iterTriedSpec Rows.iterTriedRow = true := by
  unfold joinedFacts
  repeat' (with_reducible refine Bool.and_eq_true_iff.2 ⟨?_, ?_⟩)
  all_goals (as_aux_lemma => kernel_rfl)
theorem over : Rows.iterTriedRow.holds Tryz.pinned (OpenSpec.ofChange Rows.iterTriedSpec) :=
  OpenClaim.holds_of_wide 11 Tryz.f11 rfl rfl rfl rfl rfl rfl rfl ⟨rfl, rfl, rfl, rfl, rfl⟩ rfl rfl rfl rfl rfl (by as_aux_lemma => kernel_rfl) Tryz.func11 closed
    (of_decide_eq_true (by as_aux_lemma => kernel_rfl)) (by unfold Func.isWrapper; first | (rw [if_pos (by decide +kernel)]; kernel_rfl) | (rw [if_neg (by decide +kernel)]; exact ⟨rfl, rfl⟩))
    (fun os started H enc _ => lifted os started H enc)

theorem proved : Rows.IterTriedSaid := over
end Go.Proofs.YtlldjadlhgonbaaGreat.iterTried
