/- A run of the closures speaks of a law that is called. -/
import Derived.Test.YtlldjadlhgonbaaGreatTabN1
import Derived.Test.YtlldjadlhgonbaaGreatDenP
import Derived.Below
import Derived.ChangeSame
set_option linter.unusedVariables false
set_option linter.unusedSimpArgs false
set_option autoImplicit false
set_option linter.unusedVariables false
namespace Den
open Go Go.RowKit Go.Proofs
namespace KK
theorem follows_mixed : Tryz.prog.follows .mixedOrders = true := by kernel_rfl
theorem good_ok {r : RC} (h : good r = true) : ∃ s, r = .ok (.bool true) s := by
  cases r with
  | no => cases h
  | ok v s =>
    cases v with
    | bool b =>
      have : b = true := h
      subst this
      exact ⟨s, rfl⟩
    | _ => cases h
/-- a law's call: its run answers true, whatever the named numbers are -/
theorem law_calls {ρ : Vl} {f n d : Nat} {args : List AV} {rargs : List Value} (w : World) (hrun : good (callK kt (natF 182 257) n d f args st0) = true) (ha : ∀ (G : Gh) (w : World), VRs ρ G w args rargs) :
    Calls Tryz.prog f rargs.toArray w fun e w' => e = .returned (.bool true) ∧ Below w.heap.size w w' := by
  obtain ⟨s, hs⟩ := good_ok hrun
  have h := callK_ok (ρ := ρ) (w0 := w) (B := w.heap.size) follows_mixed kt_ok natF_ok n d f args st0 (.bool true) s _ w rargs hs (SR.start w) (ha _ w)
  refine h.2.mono fun e w' => ?_
  rintro ⟨rv, G', rfl, q1, q2, q3, q4⟩
  cases q4
  exact ⟨rfl, q1.below⟩
/-- a number that is named once: q, of which 0 ≤ q ≤ hi -/
def vl1 (s : Nat) (q : Int) (h : 0 ≤ q ∧ q ≤ symHi s) : Vl := ⟨fun x => if x = s then q else 0, fun x => by
  by_cases hx : x = s
  · subst hx; simp only [if_true]; exact h
  · simp only [if_neg hx]; exact ⟨Int.le_refl _, Int.natCast_nonneg _⟩⟩
/-- the named number of the eighths of an int -/
def sy8 : Nat := 20752587082923245567
theorem sy8_hi : symHi sy8 = 2305843009213693951 := by decide
theorem bound64 {a : Int} (h : (Lit.int .i64 a).wf = true) : -9223372036854775808 ≤ a ∧ a ≤ 9223372036854775807 := by
  simp only [Lit.wf, Bool.and_eq_true, decide_eq_true_eq] at h
  simpa [IntKind.min, IntKind.max, IntKind.signed, IntKind.bits] using h
/-- every int is eight times a named number, and a rest -/
theorem by8 {a : Int} (h : (Lit.int .i64 a).wf = true) : ∃ (ρ : Vl) (r : Nat), r < 8 ∧ ∀ (G : Gh) (w : World), VR ρ G w (.int .i64 (.l ((r : Int) - 9223372036854775808) [(sy8, 8)])) (.int .i64 a) := by
  obtain ⟨h1, h2⟩ := bound64 h
  refine ⟨vl1 sy8 ((a + 9223372036854775808) / 8) ⟨by omega, by rw [sy8_hi]; omega⟩, ((a + 9223372036854775808) % 8).toNat, by omega, fun G w => ?_⟩
  refine VR.intE ?_
  simp only [SI.val, valT, vl1, if_true]
  omega
end KK
end Den
namespace Den
open Go Go.RowKit Go.WideShapes Go.ChangeShapes
section
variable {H : Type} {enc : TypeId × Value → H} {P : Program}
/-- the row's last step, where nothing that came in lies in memory -/
theorem post_plain {f : Func} {s : ChangeSpec} {apart fresh handsOn again : Bool} {W W' : World} {args : Array Value} {v : Value} {ds gs : List (DataW H)}
    (hW : DataW.Whole enc P f.params.toList s.vars apart W args.toList ds gs [])
    (hres : ∀ (b : Nat) (sp : Nat → Bool) (hd : Bool), DataW.TrodAll enc P W' b sp hd f.resultTypes.toList (v.resultList f.resultTypes.size) (s.fn H (ds ++ gs)).results [])
    (hargs : ∀ sp : Nat → Bool, DataW.TrodAll enc P W' 0 sp true f.params.toList args.toList (s.fn H (ds ++ gs)).args [])
    (hvars : ∀ sp : Nat → Bool, DataW.TrodVars enc P W' sp s.vars (s.fn H (ds ++ gs)).vars [])
    (hb : Below W.heap.size W W')
    (hok : ∀ (j : Nat) (t : TypeId) (r : Value), f.resultTypes[j]? = some t → (v.resultList f.resultTypes.size)[j]? = some r → Value.okWide P W' .any 0 t r) :
    s.post enc P f apart fresh handsOn again W args v W' := by
  refine ⟨ds, gs, [], [], [], [], hW, hres _ _ _, hargs _, hvars _, World.keptBut_mono (fun p hp => by simp at hp) (hb.frame (· ∈ [])), fun _ => ?_⟩
  refine ⟨hok, _, _, [], ⟨[], [], trodAll_append (hargs _) (hres _ _ _), hvars _, rfl, fun _ _ hp => by simp at hp, fun _ => by simp⟩, fun _ hp _ => by simp at hp⟩
end
end Den
