/- The abstract machine is sound: regions in any order, code, calls. -/
import Derived.Test.YtlldjadlhgonbaaGreatDenB
import Derived.LoopN
import Derived.Scope
import Derived.Laws.Sem
set_option linter.unusedVariables false
set_option linter.unusedSimpArgs false
set_option autoImplicit false
set_option linter.unusedVariables false
set_option linter.unusedSimpArgs false
namespace Den
open Go Go.RowKit
section
variable {ρ : Vl} {w w' w0 : World} {P : Program} {U : TypeId} {B : Nat}
/-- the callees answer for themselves -/
def CallsOK (P : Program) (U : TypeId) (ρ : Vl) (B : Nat) (w0 : World) (call : Nat → List AV → St → RC) : Prop :=
  ∀ (f : Nat) (args : List AV) (s : St) (v : AV) (s' : St) (G : Gh) (w : World) (rargs : List Value), call f args s = .ok v s' → SR U ρ B w0 G s w → VRs ρ G w args rargs →
    (∀ w1, (callFunc f rargs.toArray).run P w1 = .ok (.enter f rargs.toArray) w1) ∧
    Calls P f rargs.toArray w (fun en w' => ∃ rv G', en = .returned rv ∧ SR U ρ B w0 G' s' w' ∧ Ext G w G' w' ∧ Nxt G s G' s' ∧ VR ρ G' w' v rv)
def step1 (call : Nat → List AV → St → RC) (st : DStep) (e : Env) (s : St) : R := match st with
    | .p d g o => match wants e g with
      | true => match evP e o with | some v => .ok .normal (e.put d v) s | none => .no
      | false => .ok .normal (e.put d (.lst .tup [])) s
    | .r d g o => match wants e g with
      | true => match evR e s o with | some v => .ok .normal (e.put d v) s | none => .no
      | false => .ok .normal (e.put d (.lst .tup [])) s
    | .a d g o => match wants e g with
      | true => match evA e s o with | some (v, s) => .ok .normal (e.put d v) s | none => .no
      | false => .ok .normal (e.put d (.lst .tup [])) s
    | .e d g o => match wants e g with
      | true => match evE e s o with | some (v, s) => .ok .normal (putO e d v) s | none => .no
      | false => .ok .normal (putO e d (.lst .tup [])) s
    | .call d g f args => match wants e g with
      | true => match f.ev e with
        | .lst (.func f n) xs => match call f (tk n xs ++ (evs e args ++ dr n xs)) s with | .ok v s => .ok .normal (putO e d v) s | .no => .no
        | _ => .no
      | false => .ok .normal (putO e d (.lst .tup [])) s
    | .chk d g o => match wants e g with
      | true => match evR e s o with
        | some v => match sameV v (e.get d) with | true => .ok .normal e s | false => .no
        | none => .no
      | false => .ok .normal e s
theorem steps_cons (call : Nat → List AV → St → RC) (st : DStep) (l : List DStep) (e : Env) (s : St) : steps call (st :: l) e s = match step1 call st e s with | .ok _ e s => steps call l e s | .no => .no := by
  cases st with
  | p d g o => simp only [steps, step1]; cases wants e g <;> simp only []; cases evP e o <;> rfl
  | r d g o => simp only [steps, step1]; cases wants e g <;> simp only []; cases evR e s o <;> rfl
  | a d g o =>
    simp only [steps, step1]; cases wants e g <;> simp only []
    cases evA e s o with
    | none => rfl
    | some p => rfl
  | e d g o =>
    simp only [steps, step1]; cases wants e g <;> simp only []
    cases evE e s o with
    | none => rfl
    | some p => rfl
  | call d g f args =>
    simp only [steps, step1]; cases wants e g <;> simp only []
    generalize f.ev e = v
    cases v with
    | lst hd xs =>
      cases hd with
      | func f n =>
        simp only []
        generalize call f (tk n xs ++ (evs e args ++ dr n xs)) s = r
        cases r <;> rfl
      | _ => rfl
    | _ => rfl
  | chk d g o =>
    simp only [steps, step1]; cases wants e g <;> simp only []
    cases evR e s o with
    | none => rfl
    | some v =>
      simp only []
      cases sameV v (e.get d) <;> rfl
theorem steps_ok {call : Nat → List AV → St → RC} {st : DStep} {l : List DStep} {e e' : Env} {s s' : St} {x : Ex} (h : steps call (st :: l) e s = .ok x e' s') : ∃ y e1 s1, step1 call st e s = .ok y e1 s1 ∧ steps call l e1 s1 = .ok x e' s' := by
  rw [steps_cons] at h
  split at h
  · rename_i y e1 s1 h1; exact ⟨y, e1, s1, h1, h⟩
  · cases h
/-- a frame of the abstract machine and one of the model's -/
structure Run (U : TypeId) (ρ : Vl) (B : Nat) (w0 : World) (nt : Nat) (G : Gh) (e : Env) (s : St) (a : Act) (w : World) : Prop where
  sr : SR U ρ B w0 G s w
  fit : ∀ n, Fits ρ G w e a n
  size : nt ≤ a.tmps.size
theorem wants_ok {G : Gh} {e : Env} {a : Act} {ops : Array Oper} {o : Oper} {g : Gd} (hg : guardOf ops o.guard = some g) (hf : ∀ j w d, o.guard = some (j, w) → (ops[j]?).bind (·.dst) = some d → Fits ρ G w' e a d) : Region.wanted o (yielded ops a.tmps) = wants e g := by
  unfold guardOf at hg
  split at hg
  · rename_i hn
    injection hg with hg; subst hg
    simp [Region.wanted, hn, wants]
  · rename_i j w hj
    simp only [Option.bind_eq_bind, Option.bind_eq_some_iff, Option.pure_def, Option.some.injEq] at hg
    obtain ⟨oj, h1, d, h2, sl, h3, rfl⟩ := hg
    have hd : (ops[j]?).bind (·.dst) = some d := by rw [h1]; exact h2
    have hv := hf j w d hj hd sl h3
    simp only [Region.wanted, hj, yielded, hd, Option.bind_some, wants]
    generalize e.get sl = x at hv
    cases hq : a.tmps[d]? with
    | none =>
      have : a.tmps.getD d Go.undef = Go.undef := by simp [Array.getD_eq_getD_getElem?, hq]
      rw [this] at hv
      cases hv
      rfl
    | some u =>
      have : a.tmps.getD d Go.undef = u := by simp [Array.getD_eq_getD_getElem?, hq]
      rw [this] at hv
      cases hv <;> rfl
theorem Fits.putO {G : Gh} {e : Env} {a : Act} {nt : Nat} {d : Option Nat} {s : Option Slot} {v : AV} {rv : Value} (hs : slotO nt d = some s) (hn : nt ≤ a.tmps.size) (hv : VR ρ G w v rv) (h : ∀ n, Fits ρ G w e a n) : ∀ n, Fits ρ G w (Den.putO e s v) (a.put d rv) n := by
  intro n
  cases d with
  | none =>
    simp [slotO] at hs; subst hs
    exact h n
  | some d =>
    simp only [slotO, Option.map_eq_some_iff] at hs
    obtain ⟨t, h1, rfl⟩ := hs
    unfold slotN at h1
    split at h1
    · exact Fits.put (by omega) h1 hv fun _ => h n
    · cases h1
theorem Fits.putD {G : Gh} {e : Env} {a : Act} {nt : Nat} {d : Option Nat} {s : Slot} {v : AV} {rv : Value} (hs : slotD nt d = some s) (hn : nt ≤ a.tmps.size) (hv : VR ρ G w v rv) (h : ∀ n, Fits ρ G w e a n) : ∀ n, Fits ρ G w (e.put s v) (a.put d rv) n := by
  cases d with
  | none => simp [slotD] at hs
  | some d => exact Fits.putO (d := some d) (s := some s) (by simp only [slotO]; simp only [slotD] at hs; rw [hs]; rfl) hn hv h
theorem put_defers (a : Act) (d : Option Nat) (v : Value) : (a.put d v).defers = a.defers := by cases d <;> rfl
/-- what an operation does in the model, when the abstract one goes from (e, s) to (e1, s1) -/
def Steps1 (P : Program) (U : TypeId) (ρ : Vl) (B : Nat) (w0 : World) (nt : Nat) (G : Gh) (s : St) (a : Act) (w : World) (e1 : Env) (s1 : St) (ops : Array Oper) (Q : Exit → Act → World → Prop) (o : Oper) : Prop :=
  ∀ K : Act → World → Prop, (∀ G' a' w', Run U ρ B w0 nt G' e1 s1 a' w' → Ext G w G' w' → Nxt G s G' s1 → a'.defers = a.defers → K a' w') →
    if Region.wanted o (yielded ops a.tmps) then o.wp P a w K Q ∨ (o.asks P a w ∧ LetsOut Q) else K (a.put o.dst Go.undef) w
theorem rd_of {G : Gh} {e : Env} {a : Act} {o : Oper} (h : ∀ n, Fits ρ G w e a n) : Rd ρ G w e a o := fun x _ ox hx => cOpd_ok hx fun n _ => h n
theorem invoke_func {f : Nat} {first cap args : Array Value} {dst : Option Nat} {type : TypeId} {pos : String} {aft : Array Edge} {g : Option (Nat × Bool)} {fo : Operand} {ao : Array Operand} {ats : Array TypeId} {a : Act} (h : a.eval fo = .func (.func f) first cap) (hargs : ao.map a.eval = args)
    (hc : ∀ w1, (callFunc f (first ++ args ++ cap)).run P w1 = .ok (.enter f (first ++ args ++ cap)) w1) : (execOp a.eval ⟨dst, .call ⟨.value fo, ao, ats⟩, type, pos, aft, g⟩).run P w = .ok (.enter f (first ++ args ++ cap)) w := by
  simp only [execOp, resolve, h, hargs, Deferred.ofValue]
  rw [Sem.run_bind]
  simp only [Sem.run_pure, Result.andThen_ok, invoke]
  exact hc w
theorem call_comp {heap : Bool} {o : Oper} {f : Opd} {as : List Opd} (h : comp P U heap o = some (.call f as)) : ∃ fo ao ats, o.op = .call ⟨.value fo, ao, ats⟩ ∧ cOpd fo = some f ∧ cOpds ao.toList = some as := by
  obtain ⟨dst, op, type, pos, aft, g⟩ := o
  cases op <;> simp only [comp, Option.bind_eq_bind, Option.bind_eq_some_iff, Option.pure_def, Option.some.injEq, reduceCtorEq, and_false, exists_false] at h
  case call c =>
    obtain ⟨callee, args, ats⟩ := c
    cases callee with
    | value fo =>
      simp only [Option.bind_eq_some_iff, Option.some.injEq, K.call.injEq] at h
      obtain ⟨q, h1, as', h2, rfl, rfl⟩ := h
      exact ⟨fo, args, ats, rfl, h1, h2⟩
    | invoke r m => cases h
    | builtin b =>
      simp only [Option.bind_eq_some_iff] at h
      obtain ⟨as', has, hc⟩ := h
      split at hc
      · simp only [Option.bind_eq_some_iff, Option.some.injEq, reduceCtorEq, and_false, exists_false] at hc
        obtain ⟨_, _, _, _, _, _, _, _, hc⟩ := hc
        split at hc <;> cases hc
      · split at hc
        · cases hc
        · split at hc <;> cases hc
        · cases hc
        · cases hc
        · cases hc
        · cases hc
      · cases hc
      · cases hc
      · split at hc
        · simp only [Option.bind_eq_some_iff, Option.some.injEq, reduceCtorEq, and_false, exists_false] at hc
        · cases hc
      · simp only [Option.bind_eq_some_iff, Option.some.injEq, reduceCtorEq, and_false, exists_false] at hc
      · cases hc
      · split at hc
        · split at hc <;> cases hc
        · cases hc
      · cases hc
  case makeMap t r => cases r <;> cases h
  case fieldAddr t x i =>
    obtain ⟨_, _, _, _, _, _, hc⟩ := h
    split at hc
    · cases hc
    · simp only [Option.bind_eq_some_iff, Option.some.injEq, reduceCtorEq, and_false, exists_false] at hc
  case next it b =>
    cases b
    · simp only [Option.bind_eq_bind, Option.pure_def, Option.bind_eq_some_iff, Option.some.injEq, reduceCtorEq, and_false, exists_false] at h
    · cases h
  case convert t t' x =>
    split at h
    · simp only [Option.bind_eq_some_iff, Option.some.injEq, reduceCtorEq, and_false, exists_false] at h
    · simp only [Option.bind_eq_some_iff, Option.some.injEq, reduceCtorEq, and_false, exists_false] at h
    · split at h
      · simp only [Option.bind_eq_some_iff, Option.some.injEq, reduceCtorEq, and_false, exists_false] at h
      · cases h
    · split at h
      · split at h
        · simp only [Option.bind_eq_some_iff, Option.some.injEq, reduceCtorEq, and_false, exists_false] at h
        · cases h
      · cases h
    · cases h
  all_goals (exfalso; revert h; first | (split <;> simp [Option.bind_eq_some_iff]; done) | (split <;> (try split) <;> simp [Option.bind_eq_some_iff]; done) | (simp [Option.bind_eq_some_iff]; done))
end
end Den

set_option autoImplicit false
set_option linter.unusedVariables false
set_option linter.unusedSimpArgs false
namespace Den
open Go Go.RowKit
section
variable {ρ : Vl} {w w' w0 : World} {P : Program} {U : TypeId} {B : Nat}
def AOp.okU : AOp → Prop
  | .bsl _ _ u _ _ _ _ => u ≤ 1
  | .mks _ _ u _ _ _ _ => u ≤ 1
  | _ => True
theorem comp_okU {heap : Bool} {o : Oper} {q : AOp} (hc : comp P U heap o = some (.a q)) : q.okU := by
  obtain ⟨dst, op, type, pos, aft, g⟩ := o
  cases op <;> simp only [comp, Option.bind_eq_bind, Option.bind_eq_some_iff, Option.pure_def, Option.some.injEq, reduceCtorEq, and_false, exists_false, K.a.injEq] at hc
  case alloc t => obtain ⟨z, hz, rfl⟩ := hc; cases isBld P t <;> trivial
  case box t x => obtain ⟨n, hn, ox, hx, rfl⟩ := hc; trivial
  case makeMap t r =>
    cases r with
    | some r => cases hc
    | none => injection hc with hc; injection hc with hc; subst hc; trivial
  case buildSlice t n parts =>
    obtain ⟨el, he, ⟨ag, z⟩, hsh, hc⟩ := hc
    split at hc
    · cases hc
    simp only [Option.bind_eq_some_iff, Option.some.injEq, K.a.injEq] at hc
    obtain ⟨zc, hz, ps, hps, rfl⟩ := hc
    exact flagU_le el
  case makeSlice t l c =>
    obtain ⟨el, he, u, hfit, ⟨ag, z⟩, hsh, zc, hz, ol, hl, oc, hcc, rfl⟩ := hc
    exact flagU_le el
  case convert t t' x =>
    split at hc
    · simp only [Option.bind_eq_some_iff, Option.some.injEq, reduceCtorEq, and_false, exists_false] at hc
    · simp only [Option.bind_eq_some_iff, Option.some.injEq, reduceCtorEq, and_false, exists_false] at hc
    · split at hc
      · simp only [Option.bind_eq_some_iff, Option.some.injEq, reduceCtorEq, and_false, exists_false] at hc
      · cases hc
    · split at hc
      · split at hc
        · simp only [Option.bind_eq_some_iff, Option.some.injEq, K.a.injEq] at hc
          obtain ⟨ox, hx, rfl⟩ := hc
          trivial
        · cases hc
      · cases hc
    · cases hc
  case fieldAddr t x i =>
    obtain ⟨_, _, _, _, _, _, hc⟩ := hc
    split at hc
    · cases hc
    · simp only [Option.bind_eq_some_iff, Option.some.injEq, reduceCtorEq, and_false, exists_false] at hc
  case next it b =>
    cases b
    · simp only [Option.bind_eq_bind, Option.pure_def, Option.bind_eq_some_iff, Option.some.injEq, reduceCtorEq, and_false, exists_false] at hc
    · cases hc
  case call c =>
    obtain ⟨callee, args, ats⟩ := c
    cases callee with
    | value f => simp only [Option.bind_eq_some_iff, Option.some.injEq, reduceCtorEq, and_false, exists_false] at hc
    | invoke r m => cases hc
    | builtin b =>
      simp only [Option.bind_eq_some_iff] at hc
      obtain ⟨as, has, hc⟩ := hc
      split at hc
      · simp only [Option.bind_eq_some_iff] at hc
        obtain ⟨_, _, _, _, _, _, _, _, hc⟩ := hc
        split at hc <;> cases hc
      · split at hc
        · cases hc
        · split at hc <;> cases hc
        · cases hc
        · cases hc
        · cases hc
        · cases hc
      · cases hc
      · cases hc
      · split at hc
        · simp only [Option.bind_eq_some_iff, Option.some.injEq, reduceCtorEq, and_false, exists_false] at hc
        · cases hc
      · simp only [Option.bind_eq_some_iff, Option.some.injEq, reduceCtorEq, and_false, exists_false] at hc
      · cases hc
      · split at hc
        · split at hc <;> cases hc
        · cases hc
      · cases hc
  all_goals (exfalso; revert hc; first | (split <;> simp [Option.bind_eq_some_iff]; done) | (split <;> (try split) <;> simp [Option.bind_eq_some_iff]; done) | (simp [Option.bind_eq_some_iff]; done))
theorem made_ok {e : Env} {q : AOp} {m : Made} (hq : q.okU) (h : made e q = some m) : m.ok := by
  cases q with
  | bsl heap ag u z n zc ps =>
    simp only [made] at h
    split at h
    · split at h
      · injection h with h; subst h; exact hq
      · cases h
    · cases h
  | mks heap ag u z zc l c =>
    simp only [made] at h
    split at h
    · split at h
      · split at h
        · injection h with h; subst h; exact hq
        · cases h
      · cases h
    · cases h
  | alloc z => simp only [made] at h; injection h with h; subst h; trivial
  | allocT t z => simp only [made] at h; injection h with h; subst h; trivial
  | mkm => simp only [made] at h; injection h with h; subst h; trivial
  | box n x =>
    simp only [made] at h
    split at h
    · injection h with h; subst h; trivial
    · cases h
  | cvtb x =>
    simp only [made] at h
    split at h
    · injection h with h; subst h; show 0 ≤ 1; omega
    · cases h
/-- a real making goes with an abstract one at once -/
theorem makes_now {G : Gh} {s : St} {e : Env} {q : AOp} {v : AV} {s1 : St} {r : Result Next} (hs : SR U ρ B w0 G s w) (hu : q.okU) (h : evA e s q = some (v, s1)) (hm : ∀ m id, made e q = some m → SR U ρ B w0 G s1 w → Pend G s1 m id → Makes U ρ B w0 G s1 w m id r) :
    ∃ rv w' G', r = .ok (.value rv) w' ∧ SR U ρ B w0 G' s1 w' ∧ Ext G w G' w' ∧ Nxt G s G' s1 ∧ VR ρ G' w' v rv := by
  unfold evA at h
  split at h
  · rename_i m hmm
    have hok := made_ok hu hmm
    obtain ⟨id, q1, q2, q3⟩ := m.put_val s hok hs
    obtain ⟨q4, q5⟩ := hs.made hok
    injection h with h
    rw [h] at q1 q2 q4 q5
    simp only at q1 q2 q4 q5
    obtain ⟨rv, w', G', r1, r2, r3, r4, r5⟩ := hm m id hmm q4 q2
    refine ⟨rv, w', G', r1, r2, r3, ⟨q5.nb, q5.nt, fun b hb hg => ?_, q5.top⟩, by rw [q1]; exact r4⟩
    obtain ⟨k1, k2⟩ := q5.pend b hb hg
    rcases r5 b hg with h' | ⟨h', h''⟩
    · exact ⟨h', k2⟩
    · have := q3 h''; omega
  · cases h
theorem evs_len (e : Env) : ∀ l : List Opd, (evs e l).length = l.length
  | [] => rfl
  | x :: l => by simp [evs, evs_len e l]
/-- a call in the model -/
theorem call_real {G : Gh} {s s1 : St} {e : Env} {a : Act} {o : Oper} {heap : Bool} {f : Opd} {as : List Opd} {fid n : Nat} {xs : List AV} {v : AV} {call : Nat → List AV → St → RC} {K : Act → World → Prop} {Q : Exit → Act → World → Prop} (hs : SR U ρ B w0 G s w) (hc : CallsOK P U ρ B w0 call) (hcomp : comp P U heap o = some (.call f as)) (hr : Rd ρ G w e a o)
    (hf : f.ev e = .lst (.func fid n) xs) (h : call fid (tk n xs ++ (evs e as ++ dr n xs)) s = .ok v s1) (hK : ∀ rv G' w', SR U ρ B w0 G' s1 w' → Ext G w G' w' → Nxt G s G' s1 → VR ρ G' w' v rv → K (a.put o.dst rv) w') : o.wp P a w K Q := by
  obtain ⟨fo, ao, ats, hop, h1, h2⟩ := call_comp hcomp
  obtain ⟨dst, op, type, pos, aft, g⟩ := o
  simp only at hop
  subst hop
  have vf := hr fo (by simp [Op.operands, Call.operands]) f h1
  have vas := cOpds_ok (ρ := ρ) (G := G) (w := w) (e := e) (a := a) h2 fun x hx => hr x (by simp [Op.operands, Call.operands]; exact .inr (by simpa using hx))
  rw [hf] at vf
  generalize hfe : a.eval fo = rf at vf
  cases vf with
  | func _ _ _ vs hvs hn =>
    rw [tk_eq, dr_eq] at h
    obtain ⟨k1, k2⟩ := hc fid _ s v s1 G w _ h hs ((hvs.take n).append (vas.append (hvs.drop n)))
    have e1 : (vs.take n ++ (ao.toList.map a.eval ++ vs.drop n)).toArray = (vs.take n).toArray ++ ao.map a.eval ++ (vs.drop n).toArray := by
      apply Array.ext'; simp
    rw [e1] at k1 k2
    have hrun := invoke_func (P := P) (w := w) (dst := dst) (type := type) (pos := pos) (aft := aft) (g := g) (ats := ats) hfe rfl k1
    unfold Oper.wp
    rw [hrun, Oper.upon_enter]
    refine Calls.mono k2 fun en w' => ?_
    rintro ⟨rv, G', rfl, q1, q2, q3, q4⟩
    exact hK rv G' w' q1 q2 q3 q4
theorem step_real {nt : Nat} {heap : Bool} {ops : Array Oper} {o : Oper} {d : DStep} {call : Nat → List AV → St → RC} {e e1 : Env} {s s1 : St} {x : Ex} {G : Gh} {a : Act} {Q : Exit → Act → World → Prop} (hd : toStep P U nt heap ops o = some d) (h : step1 call d e s = .ok x e1 s1) (hr : Run U ρ B w0 nt G e s a w) (hc : CallsOK P U ρ B w0 call) :
    Steps1 P U ρ B w0 nt G s a w e1 s1 ops Q o := by
  intro K hK
  have rd := rd_of (o := o) hr.fit
  unfold toStep at hd
  split at hd <;> first | (cases hd; done) | skip
  all_goals rename_i g q hg hcomp
  all_goals (split at hd <;> first | (cases hd; done) | skip)
  all_goals (rename_i sl hsl; injection hd with hd; subst hd; rw [wants_ok hg (fun _ _ d _ _ => hr.fit d)])
  · simp only [step1] at h
    split at h
    · rename_i hw
      simp only [hw, if_true]
      split at h
      · rename_i v hv
        injection h with _ h1 h2; subst h1; subst h2
        obtain ⟨rv, r1, r2⟩ := evP_ok hcomp rd hv
        left
        simp only [Oper.wp, r1, Oper.upon_value]
        exact hK G _ w ⟨hr.sr, Fits.putD hsl hr.size r2 hr.fit, by rw [size_put]; exact hr.size⟩ (Ext.refl _ _) (Nxt.refl _ _) (put_defers _ _ _)
      · cases h
    · rename_i hw
      simp only [hw, Bool.false_eq_true, if_false]
      injection h with _ h1 h2; subst h1; subst h2
      exact hK G _ w ⟨hr.sr, Fits.putD hsl hr.size .undef hr.fit, by rw [size_put]; exact hr.size⟩ (Ext.refl _ _) (Nxt.refl _ _) (put_defers _ _ _)
  · simp only [step1] at h
    split at h
    · rename_i hw
      simp only [hw, if_true]
      split at h
      · rename_i v hv
        injection h with _ h1 h2; subst h1; subst h2
        obtain ⟨rv, r1, r2⟩ := evR_ok hcomp rd hr.sr hv
        left
        simp only [Oper.wp, r1, Oper.upon_value]
        exact hK G _ w ⟨hr.sr, Fits.putD hsl hr.size r2 hr.fit, by rw [size_put]; exact hr.size⟩ (Ext.refl _ _) (Nxt.refl _ _) (put_defers _ _ _)
      · cases h
    · rename_i hw
      simp only [hw, Bool.false_eq_true, if_false]
      injection h with _ h1 h2; subst h1; subst h2
      exact hK G _ w ⟨hr.sr, Fits.putD hsl hr.size .undef hr.fit, by rw [size_put]; exact hr.size⟩ (Ext.refl _ _) (Nxt.refl _ _) (put_defers _ _ _)
  · simp only [step1] at h
    split at h
    · rename_i hw
      simp only [hw, if_true]
      split at h
      · rename_i v s2 hv
        injection h with _ h1 h2; subst h1; subst h2
        obtain ⟨rv, w', G', r1, r2, r3, r4, r5⟩ := makes_now hr.sr (comp_okU hcomp) hv fun m id hm hs hp => evA_real hcomp rd hs hm hp
        left
        simp only [Oper.wp, r1, Oper.upon_value]
        exact hK G' _ w' ⟨r2, Fits.putD hsl hr.size r5 (fun n => (hr.fit n).ext r3), by rw [size_put]; exact hr.size⟩ r3 r4 (put_defers _ _ _)
      · cases h
    · rename_i hw
      simp only [hw, Bool.false_eq_true, if_false]
      injection h with _ h1 h2; subst h1; subst h2
      exact hK G _ w ⟨hr.sr, Fits.putD hsl hr.size .undef hr.fit, by rw [size_put]; exact hr.size⟩ (Ext.refl _ _) (Nxt.refl _ _) (put_defers _ _ _)
  · simp only [step1] at h
    split at h
    · rename_i hw
      simp only [hw, if_true]
      split at h
      · rename_i v s2 hv
        injection h with _ h1 h2; subst h1; subst h2
        obtain ⟨nx, rv, w', G', r1, r0, r2, r3, r4, r5⟩ := evE_real hcomp rd hr.sr hv
        left
        have fin := hK G' _ w' ⟨r2, Fits.putO hsl hr.size r5 (fun n => (hr.fit n).ext r3), by rw [size_put]; exact hr.size⟩ r3 r4 (put_defers a o.dst rv)
        rcases r0 with rfl | ⟨rfl, rfl⟩
        · simp only [Oper.wp, r1, Oper.upon_value]; exact fin
        · simp only [Oper.wp, r1, Oper.upon_skip]; exact fin
      · cases h
    · rename_i hw
      simp only [hw, Bool.false_eq_true, if_false]
      injection h with _ h1 h2; subst h1; subst h2
      exact hK G _ w ⟨hr.sr, Fits.putO hsl hr.size .undef hr.fit, by rw [size_put]; exact hr.size⟩ (Ext.refl _ _) (Nxt.refl _ _) (put_defers _ _ _)
  · simp only [step1] at h
    split at h
    · rename_i hw
      simp only [hw, if_true]
      split at h
      · rename_i fid n xs hf
        split at h
        · rename_i v s2 hcall
          injection h with _ h1 h2; subst h1; subst h2
          left
          exact call_real hr.sr hc hcomp rd hf hcall fun rv G' w' q1 q2 q3 q4 =>
            hK G' _ w' ⟨q1, Fits.putO hsl hr.size q4 (fun n => (hr.fit n).ext q2), by rw [size_put]; exact hr.size⟩ q2 q3 (put_defers a o.dst rv)
        · cases h
      · cases h
    · rename_i hw
      simp only [hw, Bool.false_eq_true, if_false]
      injection h with _ h1 h2; subst h1; subst h2
      exact hK G _ w ⟨hr.sr, Fits.putO hsl hr.size .undef hr.fit, by rw [size_put]; exact hr.size⟩ (Ext.refl _ _) (Nxt.refl _ _) (put_defers _ _ _)
/-- a region in the text's order -/
theorem reg_text {nt : Nat} {heap : Bool} {ops : Array Oper} {call : Nat → List AV → St → RC} {Q : Exit → Act → World → Prop} (hc : CallsOK P U ρ B w0 call) : ∀ {l : List Oper} {ds : List DStep} {i0 : Nat} {e e' : Env} {s s' : St} {x : Ex} {G : Gh} {a : Act} {w : World}, ops.toList.drop i0 = l → toSteps P U nt heap ops l = some ds →
    steps call ds e s = .ok x e' s' → Run U ρ B w0 nt G e s a w → (∀ G' a' w', Run U ρ B w0 nt G' e' s' a' w' → Ext G w G' w' → Nxt G s G' s' → a'.defers = a.defers → Q .normal a' w') → wpOps P ops Q (List.range' i0 l.length) a w
  | [], ds, i0, e, e', s, s', x, G, a, w, hl, hd, h, hr, hQ => by
    simp [toSteps] at hd; subst hd
    simp only [steps] at h
    injection h with _ h1 h2; subst h1; subst h2
    exact hQ G a w hr (Ext.refl _ _) (Nxt.refl _ _) rfl
  | o :: l, ds, i0, e, e', s, s', x, G, a, w, hl, hd, h, hr, hQ => by
    simp only [toSteps] at hd
    obtain ⟨d, ds', h1, h2, rfl⟩ := consO_some hd
    obtain ⟨y, e1, s1, h3, h4⟩ := steps_ok h
    have hi : ops[i0]? = some o := by
      have : (ops.toList.drop i0)[0]? = some o := by rw [hl]; rfl
      rw [List.getElem?_drop] at this
      simpa using this
    have hl' : ops.toList.drop (i0 + 1) = l := by
      rw [← List.drop_drop, hl]; rfl
    have key := step_real (ops := ops) (Q := Q) h1 h3 hr hc (wpOps P ops Q (List.range' (i0 + 1) l.length)) fun G' a' w' hr' x1 n1 d1 =>
      reg_text hc hl' h2 h4 hr' fun G'' a'' w'' hr'' x2 n2 d2 => hQ G'' a'' w'' hr'' (x1.trans x2) (n1.trans n2) (d2.trans d1)
    simp only [List.length_cons, List.range'_succ, wpOps, hi]
    exact key
end
end Den

set_option autoImplicit false
set_option linter.unusedVariables false
set_option linter.unusedSimpArgs false
namespace Den
open Go Go.RowKit
/-- what the validator says of the edges -/
structure Edges (A : Nat → Nat → Bool) (ops : Array Oper) : Prop where
  dir : ∀ (i : Nat) (o : Oper), ops[i]? = some o → ∀ ed ∈ o.after, Region.binds .any ed = true → A i ed.on = true ∧ ed.on < ops.size
  clo : ∀ (i : Nat) (o : Oper), ops[i]? = some o → ∀ j, j < ops.size → A i j = true → ∃ ed ∈ o.after, Region.binds .any ed = true ∧ (ed.on = j ∨ A ed.on j = true)
  one : ∀ (i j : Nat) (o o' : Oper) (t : Nat), ops[i]? = some o → ops[j]? = some o' → o.dst = some t → o'.dst = some t → i = j
  dat : ∀ (i j : Nat) (o o' : Oper) (t : Nat), ops[i]? = some o → ops[j]? = some o' → o'.dst = some t → t ∈ o.looksAt ops → A i j = true ∨ A j i = true ∨ i = j
theorem toSteps_len {P : Program} {U : TypeId} {nt : Nat} {heap : Bool} {ops : Array Oper} : ∀ {l : List Oper} {ds : List DStep}, toSteps P U nt heap ops l = some ds → ds.length = l.length
  | [], ds, h => by simp [toSteps] at h; subst h; rfl
  | o :: l, ds, h => by
    simp only [toSteps] at h
    obtain ⟨d, t, h1, h2, rfl⟩ := consO_some h
    simp [toSteps_len h2]
theorem toSteps_get {P : Program} {U : TypeId} {nt : Nat} {heap : Bool} {ops : Array Oper} : ∀ {l : List Oper} {ds : List DStep} {i : Nat} {o : Oper}, toSteps P U nt heap ops l = some ds → l[i]? = some o → ∃ d, ds[i]? = some d ∧ toStep P U nt heap ops o = some d
  | [], ds, i, o, h, hi => by simp at hi
  | o' :: l, ds, 0, o, h, hi => by
    simp only [toSteps] at h
    obtain ⟨d, t, h1, h2, rfl⟩ := consO_some h
    simp at hi; subst hi
    exact ⟨d, by simp, h1⟩
  | o' :: l, ds, i + 1, o, h, hi => by
    simp only [toSteps] at h
    obtain ⟨d, t, h1, h2, rfl⟩ := consO_some h
    simp at hi
    obtain ⟨d', h3, h4⟩ := toSteps_get h2 hi
    exact ⟨d', by simpa using h3, h4⟩
theorem okA_ok {A : Nat → Nat → Bool} {ops : Array Oper} {ss : List DStep} (hl : ss.length = ops.size) (h : okA A ops ss = true) : Edges A ops := by
  have lt : ∀ {i : Nat} {o : Oper}, ops[i]? = some o → i < ss.length := by
    intro i o hi
    rw [hl]
    exact (Array.getElem?_eq_some_iff.1 hi).1
  have sg : ∀ {i : Nat} {o : Oper}, ops[i]? = some o → ∃ d, ss[i]? = some d := fun hi => ⟨_, List.getElem?_eq_getElem (lt hi)⟩
  unfold okA at h
  rw [List.all_eq_true] at h
  have row : ∀ (i : Nat) (o : Oper), ops[i]? = some o → (o.after.all fun e => !Region.binds .any e || (A i e.on && decide (e.on < ss.length))) = true ∧
      ((List.range ss.length).all fun j => !A i j || o.after.any (fun e => Region.binds .any e && (e.on == j || A e.on j))) = true ∧
      ∀ (j : Nat) (o' : Oper), ops[j]? = some o' → (match o'.dst with
            | none => true
            | some t => (i == j || o.dst != some t) && (A i j || A j i || i == j || !(o.looksAt ops).contains t)) = true := by
    intro i o hi
    obtain ⟨d, hd⟩ := sg hi
    have h1 := h i (List.mem_range.2 (lt hi))
    simp only [hi, hd, Bool.and_eq_true] at h1
    obtain ⟨⟨h2, h3⟩, h4⟩ := h1
    refine ⟨h2, h3, fun j o' hj => ?_⟩
    obtain ⟨d', hd'⟩ := sg hj
    rw [List.all_eq_true] at h4
    have h5 := h4 j (List.mem_range.2 (lt hj))
    simp only [hj, hd'] at h5
    cases hdst : o'.dst with
    | none => rfl
    | some t => rw [hdst] at h5; exact h5
  refine ⟨fun i o hi ed he hb => ?_, fun i o hi j hj ha => ?_, fun i j o o' t hi hj ht ht' => ?_, fun i j o o' t hi hj ht hlook => ?_⟩
  · have := (row i o hi).1
    rw [Array.all_eq_true_iff_forall_mem] at this
    have := this ed he
    rw [hl] at this
    simpa [hb] using this
  · have := (row i o hi).2.1
    rw [List.all_eq_true] at this
    have := this j (List.mem_range.2 (by omega))
    simp only [ha, Bool.not_true, Bool.false_or, Array.any_eq_true'] at this
    obtain ⟨ed, h1, h2⟩ := this
    simp only [Bool.and_eq_true, Bool.or_eq_true, beq_iff_eq] at h2
    exact ⟨ed, h1, h2.1, h2.2⟩
  · have := (row i o hi).2.2 j o' hj
    simp only [ht', Bool.and_eq_true, Bool.or_eq_true, beq_iff_eq, bne_iff_ne, ne_eq] at this
    rcases this.1 with h1 | h1
    · exact h1
    · exact absurd ht h1
  · have := (row i o hi).2.2 j o' hj
    simp only [ht, Bool.and_eq_true, Bool.or_eq_true, beq_iff_eq] at this
    rcases this.2 with ((h1 | h1) | h1) | h1
    · exact .inl h1
    · exact .inr (.inl h1)
    · exact .inr (.inr h1)
    · simp [hlook] at h1
end Den

set_option autoImplicit false
set_option linter.unusedVariables false
set_option linter.unusedSimpArgs false
namespace Den
open Go Go.RowKit
def dW (ss : List DStep) (j : Nat) : Option Slot := match ss[j]? with | some d => wdst d | none => none
def dO (ops : Array Oper) (j : Nat) : Option Nat := match ops[j]? with | some o => o.dst | none => none
/-- an environment of an earlier moment -/
def EnvAt (ss : List DStep) (e0 e : Env) (Di : List Nat) (ei : Env) : Prop :=
  ∀ t, ((∃ j ∈ Di, dW ss j = some t) → ei.get t = e.get t) ∧ ((¬ ∃ j ∈ Di, dW ss j = some t) → ei.get t = e0.get t)
/-- what is known of an operation that the abstract machine has done and the model not yet -/
def Fact (A : Nat → Nat → Bool) (ss : List DStep) (e0 : Env) (nb0 : Nat) (D owe : List Nat) (own : Nat → Option Nat) (e : Env) (s : St) (G : Gh) (i : Nat) : Prop :=
  ∃ d ei Di, ss[i]? = some d ∧ (∀ k ∈ Di, k ∈ D) ∧ i ∉ Di ∧ (∀ j, j < ss.length → A i j = true → j ∈ Di) ∧ (∀ k ∈ Di, ∀ j, j < ss.length → A k j = true → j ∈ Di) ∧ EnvAt ss e0 e Di ei ∧
  match d with
  | .p t g o => (wants ei g = true ∧ evP ei o = some (e.get t)) ∨ (wants ei g = false ∧ e.get t = .lst .tup [])
  | .r t g o => (wants ei g = true ∧ (i ∉ owe → evR ei s o = some (e.get t))) ∨ (wants ei g = false ∧ e.get t = .lst .tup [])
  | .a t g o => (wants ei g = true ∧ ∃ m id, made ei o = some m ∧ e.get t = m.val id ∧ Pend G s m id ∧ (m.isBlk = true → own id = some i ∧ nb0 ≤ id)) ∨ (wants ei g = false ∧ e.get t = .lst .tup [])
  | _ => False
section
variable {ρ : Vl} {w w' w0 : World} {P : Program} {U : TypeId} {B : Nat}
/-- the invariant -/
structure Inv (U : TypeId) (ρ : Vl) (B : Nat) (w0 : World) (A : Nat → Nat → Bool) (ops : Array Oper) (ss : List DStep) (nt : Nat) (e0 : Env) (nb0 : Nat) (S D reads owe : List Nat) (own : Nat → Option Nat) (e : Env) (s : St) (G : Gh) (a : Act) (w : World) : Prop where
  sr : SR U ρ B w0 G s w
  size : nt ≤ a.tmps.size
  nb : nb0 ≤ s.nb
  sub : ∀ i ∈ S, i ∈ D
  dlt : ∀ i ∈ D, i < ss.length
  scl : ∀ i ∈ S, ∀ j, j < ss.length → A i j = true → j ∈ S
  dcl : ∀ i ∈ D, ∀ j, j < ss.length → A i j = true → j ∈ D
  env : ∀ t, (∀ j ∈ D, dW ss j ≠ some t) → e.get t = e0.get t
  fitS : ∀ m t, slot m = some t → (∃ j ∈ S, dO ops j = some m) → VR ρ G w (e.get t) (a.tmps.getD m Go.undef)
  fitN : ∀ m t, slot m = some t → (¬ ∃ j ∈ S, dO ops j = some m) → VR ρ G w (e0.get t) (a.tmps.getD m Go.undef)
  fact : ∀ i ∈ D, i ∉ S → Fact A ss e0 nb0 D owe own e s G i
  rds : ∀ i ∈ D, i ∉ S → ∀ d, ss[i]? = some d → isRd d = true → i ∈ reads
/-- steps and operations go together -/
structure Pair (P : Program) (U : TypeId) (nt : Nat) (heap : Bool) (ops : Array Oper) (ss : List DStep) : Prop where
  len : ss.length = ops.size
  get : ∀ (i : Nat) (o : Oper), ops[i]? = some o → ∃ d, ss[i]? = some d ∧ toStep P U nt heap ops o = some d
theorem toStep_dst {nt : Nat} {heap : Bool} {ops : Array Oper} {o : Oper} {d : DStep} (h : toStep P U nt heap ops o = some d) : (∀ t, o.dst = some t → t < nt ∧ ∃ sl, slot t = some sl ∧ wdst d = some sl) ∧ (o.dst = none → wdst d = none) := by
  unfold toStep at h
  have hD : ∀ {sl : Slot}, slotD nt o.dst = some sl → (∀ t, o.dst = some t → t < nt ∧ slot t = some sl) ∧ o.dst ≠ none := by
    intro sl hs
    cases hd : o.dst with
    | none => rw [hd] at hs; simp [slotD] at hs
    | some t =>
      rw [hd] at hs
      simp only [slotD, slotN] at hs
      split at hs
      · rename_i hlt
        refine ⟨fun t' ht' => ?_, by simp⟩
        injection ht' with ht'; subst ht'
        exact ⟨hlt, hs⟩
      · cases hs
  have hO : ∀ {sl : Option Slot}, slotO nt o.dst = some sl → (∀ t, o.dst = some t → t < nt ∧ ∃ q, slot t = some q ∧ sl = some q) ∧ (o.dst = none → sl = none) := by
    intro sl hs
    cases hd : o.dst with
    | none => rw [hd] at hs; simp [slotO] at hs; subst hs; exact ⟨fun t ht => (by cases ht), fun _ => rfl⟩
    | some t =>
      rw [hd] at hs
      simp only [slotO, Option.map_eq_some_iff, slotN] at hs
      obtain ⟨q, hq, rfl⟩ := hs
      split at hq
      · rename_i hlt
        refine ⟨fun t' ht' => ?_, fun h => by cases h⟩
        injection ht' with ht'; subst ht'
        exact ⟨hlt, q, hq, rfl⟩
      · cases hq
  split at h <;> first | (cases h; done) | skip
  all_goals (split at h <;> first | (cases h; done) | skip)
  all_goals (rename_i sl hsl; injection h with h; subst h; simp only [wdst])
  · obtain ⟨h1, h2⟩ := hD hsl
    exact ⟨fun t ht => ⟨(h1 t ht).1, sl, (h1 t ht).2, rfl⟩, fun h => absurd h h2⟩
  · obtain ⟨h1, h2⟩ := hD hsl
    exact ⟨fun t ht => ⟨(h1 t ht).1, sl, (h1 t ht).2, rfl⟩, fun h => absurd h h2⟩
  · obtain ⟨h1, h2⟩ := hD hsl
    exact ⟨fun t ht => ⟨(h1 t ht).1, sl, (h1 t ht).2, rfl⟩, fun h => absurd h h2⟩
  · obtain ⟨h1, h2⟩ := hO hsl
    exact ⟨h1, h2⟩
  · obtain ⟨h1, h2⟩ := hO hsl
    exact ⟨h1, h2⟩
section
variable {A : Nat → Nat → Bool} {ops : Array Oper} {ss : List DStep} {nt nb0 : Nat} {heap : Bool} {e0 : Env}
theorem Pair.w_of (hp : Pair P U nt heap ops ss) {j m : Nat} (h : dO ops j = some m) : ∃ sl, slot m = some sl ∧ dW ss j = some sl ∧ m < nt := by
  unfold dO at h
  split at h
  · rename_i o ho
    obtain ⟨d, h1, h2⟩ := hp.get j o ho
    obtain ⟨h3, sl, h4, h5⟩ := (toStep_dst h2).1 m h
    exact ⟨sl, h4, by unfold dW; rw [h1]; exact h5, h3⟩
  · cases h
theorem Pair.o_of (hp : Pair P U nt heap ops ss) {j : Nat} {sl : Slot} (h : dW ss j = some sl) : ∃ m, dO ops j = some m ∧ slot m = some sl := by
  unfold dW at h
  split at h
  · rename_i d hd
    have hlt : j < ops.size := by rw [← hp.len]; exact (List.getElem?_eq_some_iff.1 hd).1
    obtain ⟨d', h1, h2⟩ := hp.get j ops[j] (by simp [hlt])
    rw [hd] at h1; injection h1 with h1; subst h1
    cases hdst : (ops[j]).dst with
    | none => rw [(toStep_dst h2).2 hdst] at h; cases h
    | some m =>
      obtain ⟨h3, sl', h4, h5⟩ := (toStep_dst h2).1 m hdst
      rw [h5] at h; injection h with h; subst h
      exact ⟨m, by unfold dO; simp [hlt, hdst], h4⟩
  · cases h
theorem Pair.one (hp : Pair P U nt heap ops ss) (he : Edges A ops) {i j : Nat} {sl : Slot} (hi : dW ss i = some sl) (hj : dW ss j = some sl) : i = j := by
  obtain ⟨m, h1, h2⟩ := hp.o_of hi
  obtain ⟨m', h3, h4⟩ := hp.o_of hj
  have := slot_inj h2 h4
  subst this
  unfold dO at h1 h3
  split at h1
  · rename_i o ho
    split at h3
    · rename_i o' ho'
      exact he.one i j o o' m ho ho' h1 h3
    · cases h3
  · cases h1
/-- facts are about slots that nobody writes any more -/
theorem EnvAt.put {e : Env} {D Di : List Nat} {ei : Env} {i : Nat} {v : AV} (hp : Pair P U nt heap ops ss) (he : Edges A ops) (h : EnvAt ss e0 e Di ei) (hsub : ∀ k ∈ Di, k ∈ D) (hi : i ∉ D) : EnvAt ss e0 (putO e (dW ss i) v) Di ei := by
  intro t
  obtain ⟨h1, h2⟩ := h t
  refine ⟨fun hj => ?_, h2⟩
  rw [h1 hj]
  obtain ⟨j, hj1, hj2⟩ := hj
  cases hw : dW ss i with
  | none => rfl
  | some q =>
    show e.get t = (e.put q v).get t
    rw [Env.get_put, if_neg]
    rintro rfl
    have := hp.one he hw hj2
    subst this
    exact hi (hsub _ hj1)
theorem get_putO_ne {e : Env} {q : Option Slot} {v : AV} {t : Slot} (h : q ≠ some t) : (putO e q v).get t = e.get t := by
  cases q with
  | none => rfl
  | some q =>
    show (e.put q v).get t = e.get t
    rw [Env.get_put, if_neg]; rintro rfl; exact h rfl
theorem get_putO_eq {e : Env} {v : AV} {t : Slot} : (putO e (some t) v).get t = v := by
  show (e.put t v).get t = v
  rw [Env.get_put, if_pos rfl]
end
end
end Den

set_option autoImplicit false
set_option linter.unusedVariables false
set_option linter.unusedSimpArgs false
namespace Den
open Go Go.RowKit
theorem cellsAt_mono {s s1 : St} (h : ∀ b o, s.blk.get b = some o → s1.blk.get b = some o) {b : Nat} {cs : List AV} (hc : cellsAt s b = some cs) : cellsAt s1 b = some cs := by
  unfold cellsAt at hc ⊢
  split at hc
  · rename_i cs' hg
    rw [h b _ hg]; exact hc
  · rename_i t cs' hg
    rw [h b _ hg]; exact hc
  · cases hc
theorem entries_mono {s s1 : St} (h : ∀ b o, s.blk.get b = some o → s1.blk.get b = some o) {b : Nat} {p : List (AV × AV × Nat) × Nat} (hc : entries s b = some p) : entries s1 b = some p := by
  unfold entries at hc ⊢
  split at hc
  · rename_i es cl hg
    rw [h b _ hg]; exact hc
  · cases hc
theorem lkpE_mono {s s1 : St} (h : ∀ b o, s.blk.get b = some o → s1.blk.get b = some o) {kt : KT} {m k : AV} {r : Option (Nat × AV × Nat)} (hc : lkpE s kt m k = some r) : lkpE s1 kt m k = some r := by
  unfold lkpE at hc ⊢
  split at hc
  · exact hc
  · split at hc
    · rename_i he
      rw [entries_mono h he]; exact hc
    · cases hc
  · cases hc
theorem evR_mono {s s1 : St} (h : ∀ b o, s.blk.get b = some o → s1.blk.get b = some o) {e : Env} {q : ROp} {v : AV} (hq : evR e s q = some v) : evR e s1 q = some v := by
  cases q with
  | ld ag n a =>
    simp only [evR] at hq ⊢
    generalize a.ev e = x at hq ⊢
    split at hq
    · split at hq
      · rename_i hc
        simp only [cellsAt_mono h hc]; exact hq
      · cases hq
    · exact hq
    · cases hq
  | lkp kt ok z m k =>
    simp only [evR] at hq ⊢
    cases hl : lkpE s kt (m.ev e) (k.ev e) with
    | none => rw [hl] at hq; cases hq
    | some r => rw [hl] at hq; rw [lkpE_mono h hl]; exact hq
  | ent it =>
    simp only [evR] at hq ⊢
    generalize it.ev e = x at hq ⊢
    split at hq
    · split at hq
      · rename_i hg
        rw [h _ _ hg]
        simp only
        split at hq
        · rename_i he hn
          rw [entries_mono h he, hn]; exact hq
        · cases hq
      · cases hq
    · cases hq
  | lenM x =>
    simp only [evR] at hq ⊢
    generalize x.ev e = y at hq ⊢
    split at hq
    · exact hq
    · split at hq
      · rename_i he
        simp only [entries_mono h he]; exact hq
      · cases hq
    · cases hq
  | cvts x =>
    simp only [evR] at hq ⊢
    generalize x.ev e = y at hq ⊢
    split at hq
    · exact hq
    · exact hq
    · split at hq
      · rename_i hc
        simp only [cellsAt_mono h hc]; exact hq
      · cases hq
    · cases hq
/-- an abstract making leaves what stands -/
structure Grew (s s1 : St) : Prop where
  nb : s.nb ≤ s1.nb
  nt : s.nt ≤ s1.nt
  blk : ∀ b o, s.blk.get b = some o → s1.blk.get b = some o
  top : ∀ t T, s.top.get t = some T → s1.top.get t = some T
theorem Grew.refl (s : St) : Grew s s := ⟨Nat.le_refl _, Nat.le_refl _, fun _ _ h => h, fun _ _ h => h⟩
section
variable {ρ : Vl} {w w' w0 : World} {P : Program} {U : TypeId} {B : Nat} {G : Gh} {s : St}
theorem grew_made (h : SR U ρ B w0 G s w) (m : Made) : Grew s (m.put s).2 := by
  have blk : ∀ o, Grew s (newBlk s o) := by
    intro o
    refine ⟨Nat.le_succ _, Nat.le_refl _, fun b q hb => ?_, fun _ _ h => h⟩
    show (s.blk.put s.nb o).get b = some q
    rw [Tr.put_other]; exact hb
    rintro rfl
    rw [(h.new _ (Nat.le_refl _)).2] at hb; cases hb
  cases m with
  | cells cs => exact blk _
  | cellsT t cs => exact blk _
  | map => exact blk _
  | sl heap u z xs xc =>
    cases heap
    · refine ⟨Nat.le_refl _, by show s.nt ≤ s.nt + 2; omega, fun _ _ h => h, fun t T ht => ?_⟩
      show (s.top.put (s.nt + u) _).get t = some T
      rw [Tr.put_other]; exact ht
      rintro rfl
      rw [h.newt _ (Nat.le_add_right _ _)] at ht; cases ht
    · exact blk _
theorem Pend.grew {s1 : St} (g : Grew s s1) {m : Made} {id : Nat} (h : Pend G s m id) : Pend G s1 m id := by
  cases m with
  | cells cs => exact ⟨Nat.lt_of_lt_of_le h.1 g.nb, h.2.1, g.blk _ _ h.2.2⟩
  | cellsT t cs => exact ⟨Nat.lt_of_lt_of_le h.1 g.nb, h.2.1, g.blk _ _ h.2.2⟩
  | map => exact ⟨Nat.lt_of_lt_of_le h.1 g.nb, h.2.1, g.blk _ _ h.2.2⟩
  | sl heap u z xs xc =>
    cases heap
    · obtain ⟨h1, h2, T, h3, h4⟩ := h
      exact ⟨Nat.lt_of_lt_of_le h1 g.nt, h2, T, g.top _ _ h3, h4⟩
    · exact ⟨Nat.lt_of_lt_of_le h.1 g.nb, h.2.1, g.blk _ _ h.2.2⟩
theorem Pend.lt {m : Made} {id : Nat} (h : Pend G s m id) (hb : m.isBlk = true) : id < s.nb := by
  cases m with
  | cells cs => exact h.1
  | cellsT t cs => exact h.1
  | map => exact h.1
  | sl heap u z xs xc => cases heap; cases hb; exact h.1
section
variable {A : Nat → Nat → Bool} {ops : Array Oper} {ss : List DStep} {nt nb0 : Nat} {heap : Bool} {e0 : Env} {S D reads owe : List Nat} {own : Nat → Option Nat} {e : Env} {a : Act}
/-- facts stand when the abstract machine goes on -/
theorem Fact.go {i k : Nat} {v : AV} {s1 : St} {own' : Nat → Option Nat} (hp : Pair P U nt heap ops ss) (he : Edges A ops) (hi : i ∉ D) (hk : k ∈ D) (g : Grew s s1) (ho : ∀ id, id < s.nb → own' id = own id) (h : Fact A ss e0 nb0 D owe own e s G k) :
    Fact A ss e0 nb0 (i :: D) owe own' (putO e (dW ss i) v) s1 G k := by
  obtain ⟨d, ei, Di, h1, h2, h3, h4, h5, h6, h7⟩ := h
  refine ⟨d, ei, Di, h1, fun q hq => List.mem_cons_of_mem _ (h2 q hq), h3, h4, h5, h6.put hp he h2 hi, ?_⟩
  have hne : ∀ t, wdst d = some t → (putO e (dW ss i) v).get t = e.get t := by
    intro t ht
    refine get_putO_ne fun hw => ?_
    have : dW ss k = some t := by unfold dW; rw [h1]; exact ht
    have := hp.one he hw this
    subst this
    exact hi hk
  cases d with
  | p t g o => simp only [hne t rfl]; exact h7
  | r t g' o =>
    simp only [hne t rfl]
    rcases h7 with ⟨q1, q2⟩ | q
    · exact .inl ⟨q1, fun q3 => evR_mono g.blk (q2 q3)⟩
    · exact .inr q
  | a t g' o =>
    simp only [hne t rfl]
    rcases h7 with ⟨q1, m, id, q2, q3, q4, q5⟩ | q
    · exact .inl ⟨q1, m, id, q2, q3, q4.grew g, fun hb => ⟨by rw [ho id (q4.lt hb)]; exact (q5 hb).1, (q5 hb).2⟩⟩
    · exact .inr q
  | _ => exact h7
theorem Inv.abs {i : Nat} {d : DStep} {call : Nat → List AV → St → RC} {x : Ex} {e1 : Env} {s1 : St} (hp : Pair P U nt heap ops ss) (he : Edges A ops) (h : Inv U ρ B w0 A ops ss nt e0 nb0 S D reads [] own e s G a w) (hd : ss[i]? = some d) (hne : isEff d = false) (hchk : ∀ t g o, d ≠ .chk t g o)
    (hok : ∀ t g o, d = .a t g o → o.okU) (hi : i ∉ D) (hA : ∀ j, j < ss.length → A i j = true → j ∈ D) (hst : step1 call d e s = .ok x e1 s1) :
    ∃ own', Inv U ρ B w0 A ops ss nt e0 nb0 S (i :: D) (if isRd d then i :: reads else reads) [] own' e1 s1 G a w := by
  have hlt : i < ss.length := (List.getElem?_eq_some_iff.1 hd).1
  have hwd : dW ss i = wdst d := by unfold dW; rw [hd]
  have henv : EnvAt ss e0 e D e := fun t => ⟨fun _ => rfl, fun hn => h.env t fun j hj hw => hn ⟨j, hj, hw⟩⟩
  -- the general frame
  have fin : ∀ (v : AV) (s1 : St) (own' : Nat → Option Nat), SR U ρ B w0 G s1 w → Grew s s1 → (∀ id, id < s.nb → own' id = own id) →
      (i ∉ S → Fact A ss e0 nb0 (i :: D) [] own' (putO e (dW ss i) v) s1 G i) → Inv U ρ B w0 A ops ss nt e0 nb0 S (i :: D) (if isRd d then i :: reads else reads) [] own' (putO e (dW ss i) v) s1 G a w := by
    intro v s1 own' hsr hg ho hf
    refine ⟨hsr, h.size, Nat.le_trans h.nb hg.nb, fun k hk => List.mem_cons_of_mem _ (h.sub k hk), ?_, h.scl, ?_, ?_, ?_, h.fitN, ?_, ?_⟩
    · intro k hk
      rcases List.mem_cons.1 hk with rfl | hk
      · exact hlt
      · exact h.dlt k hk
    · intro k hk j hj ha
      rcases List.mem_cons.1 hk with rfl | hk
      · exact List.mem_cons_of_mem _ (hA j hj ha)
      · exact List.mem_cons_of_mem _ (h.dcl k hk j hj ha)
    · intro t ht
      rw [get_putO_ne (ht i (by simp))]
      exact h.env t fun j hj => ht j (List.mem_cons_of_mem _ hj)
    · rintro m t hm ⟨j, hj, hjo⟩
      obtain ⟨sl, q1, q2, q3⟩ := hp.w_of hjo
      rw [hm] at q1; injection q1 with q1; subst q1
      rw [get_putO_ne]
      · exact h.fitS m t hm ⟨j, hj, hjo⟩
      · intro hw
        have := hp.one he hw q2
        subst this
        exact hi (h.sub _ hj)
    · intro k hk hkS
      rcases List.mem_cons.1 hk with rfl | hk
      · exact hf hkS
      · exact (h.fact k hk hkS).go hp he hi hk hg ho
    · intro k hk hkS dk hdk hrk
      rcases List.mem_cons.1 hk with rfl | hk
      · rw [hd] at hdk; injection hdk with hdk; subst hdk
        rw [if_pos hrk]; simp
      · have := h.rds k hk hkS dk hdk hrk
        split
        · exact List.mem_cons_of_mem _ this
        · exact this
  have base : ∀ (v : AV) (s1 : St), EnvAt ss e0 (putO e (dW ss i) v) D e := fun v s1 => henv.put hp he (fun _ h => h) hi
  have iD : ∀ k ∈ D, k ∈ i :: D := fun k hk => List.mem_cons_of_mem _ hk
  cases d with
  | p t g o =>
    have hw : dW ss i = some t := hwd
    simp only [step1] at hst
    split at hst
    · rename_i hwt
      split at hst
      · rename_i v hv
        injection hst with _ h1 h2; subst h1; subst h2
        have := fin v s own h.sr (Grew.refl _) (fun _ _ => rfl) (fun _ => ⟨_, e, D, hd, iD, hi, hA, h.dcl, base v s, .inl ⟨hwt, by rw [hw, get_putO_eq]; exact hv⟩⟩)
        rw [hw] at this
        exact ⟨own, this⟩
      · cases hst
    · rename_i hwt
      injection hst with _ h1 h2; subst h1; subst h2
      have := fin (.lst .tup []) s own h.sr (Grew.refl _) (fun _ _ => rfl) (fun _ => ⟨_, e, D, hd, iD, hi, hA, h.dcl, base _ s, .inr ⟨hwt, by rw [hw, get_putO_eq]⟩⟩)
      rw [hw] at this
      exact ⟨own, this⟩
  | r t g o =>
    have hw : dW ss i = some t := hwd
    simp only [step1] at hst
    split at hst
    · rename_i hwt
      split at hst
      · rename_i v hv
        injection hst with _ h1 h2; subst h1; subst h2
        have := fin v s own h.sr (Grew.refl _) (fun _ _ => rfl) (fun _ => ⟨_, e, D, hd, iD, hi, hA, h.dcl, base v s, .inl ⟨hwt, fun _ => by rw [hw, get_putO_eq]; exact hv⟩⟩)
        rw [hw] at this
        exact ⟨own, this⟩
      · cases hst
    · rename_i hwt
      injection hst with _ h1 h2; subst h1; subst h2
      have := fin (.lst .tup []) s own h.sr (Grew.refl _) (fun _ _ => rfl) (fun _ => ⟨_, e, D, hd, iD, hi, hA, h.dcl, base _ s, .inr ⟨hwt, by rw [hw, get_putO_eq]⟩⟩)
      rw [hw] at this
      exact ⟨own, this⟩
  | a t g o =>
    have hw : dW ss i = some t := hwd
    simp only [step1] at hst
    split at hst
    · rename_i hwt
      split at hst
      · rename_i v s2 hv
        injection hst with _ h1 h2; subst h1; subst h2
        unfold evA at hv
        split at hv
        · rename_i m hm
          have hmok := made_ok (hok t g o rfl) hm
          obtain ⟨id, q1, q2, q3⟩ := m.put_val s hmok h.sr
          have q4 := (h.sr.made hmok).1
          have q5 := grew_made h.sr m
          injection hv with hv
          rw [hv] at q1 q2 q4 q5
          simp only at q1 q2 q4 q5
          have := fin v s2 (fun x => if x = s.nb then some i else own x) q4 q5 (fun id hid => if_neg (by omega)) (fun _ => ⟨_, e, D, hd, iD, hi, hA, h.dcl, base v s2, .inl ⟨hwt, m, id, hm, by rw [hw, get_putO_eq]; exact q1, q2, fun hb => by
            have := q3 hb
            subst this
            exact ⟨if_pos rfl, h.nb⟩⟩⟩)
          rw [hw] at this
          exact ⟨_, this⟩
        · cases hv
      · cases hst
    · rename_i hwt
      injection hst with _ h1 h2; subst h1; subst h2
      have := fin (.lst .tup []) s own h.sr (Grew.refl _) (fun _ _ => rfl) (fun _ => ⟨_, e, D, hd, iD, hi, hA, h.dcl, base _ s, .inr ⟨hwt, by rw [hw, get_putO_eq]⟩⟩)
      rw [hw] at this
      exact ⟨own, this⟩
  | e t g o => cases hne
  | call t g f as => cases hne
  | chk t g o => exact absurd rfl (hchk t g o)
end
end
end Den

set_option autoImplicit false
set_option linter.unusedVariables false
set_option linter.unusedSimpArgs false
namespace Den
open Go Go.RowKit
/-! ### reads depend on what they look at -/
theorem slotsOf_mem : ∀ {l : List Opd} {x : Opd} {t : Slot}, x ∈ l → x = .t t → t ∈ slotsOf l
  | [], x, t, h, _ => by cases h
  | y :: l, x, t, h, hx => by
    rcases List.mem_cons.1 h with rfl | h
    · subst hx; simp [slotsOf]
    · have := slotsOf_mem h hx
      cases y <;> simp [slotsOf, this]
theorem ev_congr {e e' : Env} {x : Opd} (h : ∀ t, x = .t t → e.get t = e'.get t) : x.ev e = x.ev e' := by
  cases x with
  | t s => exact h s rfl
  | k v => rfl
  | f i => rfl
theorem evR_congr {e e' : Env} {s : St} {q : ROp} (h : ∀ t ∈ slotsOf q.opds, e.get t = e'.get t) : evR e s q = evR e' s q := by
  have hx : ∀ x ∈ q.opds, x.ev e = x.ev e' := fun x hx => ev_congr fun t ht => h t (slotsOf_mem hx ht)
  cases q with
  | ld ag n a => simp only [evR, hx a (by simp [ROp.opds])]
  | lkp kt ok z m k => simp only [evR, hx m (by simp [ROp.opds]), hx k (by simp [ROp.opds])]
  | ent it => simp only [evR, hx it (by simp [ROp.opds])]
  | lenM x => simp only [evR, hx x (by simp [ROp.opds])]
  | cvts x => simp only [evR, hx x (by simp [ROp.opds])]
theorem wants_congr {e e' : Env} {g : Gd} (h : ∀ t ∈ gdS g, e.get t = e'.get t) : wants e g = wants e' g := by
  cases g with
  | none => rfl
  | some p => obtain ⟨d, w⟩ := p; simp only [wants, h d (by simp [gdS])]
theorem sameR_eq {a b : Ref} (h : sameR a b = true) : a = b := by
  cases a <;> cases b <;> first | rfl | exact absurd (show false = true from h) (by decide) | skip
  · simp only [sameR, Bool.and_eq_true] at h
    rw [Nat.eq_of_beq_eq_true h.1, Nat.eq_of_beq_eq_true h.2]
  · simp only [sameR, Bool.and_eq_true] at h
    obtain ⟨⟨⟨⟨h1, h2⟩, h3⟩, h4⟩, h5⟩ := h
    rw [Nat.eq_of_beq_eq_true h1, Nat.eq_of_beq_eq_true h2, Nat.eq_of_beq_eq_true h3, Nat.eq_of_beq_eq_true h4, Nat.eq_of_beq_eq_true h5]
  · simp only [sameR] at h
    rw [Nat.eq_of_beq_eq_true h]
theorem sameO_eq {a b : Option Nat} (h : sameO a b = true) : a = b := by
  cases a <;> cases b <;> first | rfl | exact absurd (show false = true from h) (by decide) | skip
  simp only [sameO] at h
  rw [Nat.eq_of_beq_eq_true h]
theorem sameH_eq {a b : Hd} (h : sameH a b = true) : a = b := by
  cases a <;> cases b <;> first | rfl | exact absurd (show false = true from h) (by decide) | skip
  · simp only [sameH] at h
    rw [Nat.eq_of_beq_eq_true h]
  · simp only [sameH, Bool.and_eq_true] at h
    rw [Nat.eq_of_beq_eq_true h.1, Nat.eq_of_beq_eq_true h.2]
  · simp only [sameH, Bool.and_eq_true] at h
    obtain ⟨⟨⟨h1, h2⟩, h3⟩, h4⟩ := h
    rw [Nat.eq_of_beq_eq_true h1, Nat.eq_of_beq_eq_true h2, Nat.eq_of_beq_eq_true h3, sameO_eq h4]
  · simp only [sameH, Bool.and_eq_true] at h
    rw [Nat.eq_of_beq_eq_true h.1, Nat.eq_of_beq_eq_true h.2]
mutual
theorem sameV_eq : ∀ (a b : AV), sameV a b = true → a = b
  | .int k n, b, h => by
    cases b with
    | int k' m =>
      have h' : ((k == k') && sameS n m) = true := h
      simp only [Bool.and_eq_true, beq_iff_eq] at h'
      obtain ⟨rfl, h2⟩ := h'
      rw [sameS_eq h2]
    | _ => exact absurd (show false = true from h) (by decide)
  | .bool x, b, h => by
    cases b with
    | bool y => have h' : (x == y) = true := h; rw [eq_of_beq h']
    | _ => exact absurd (show false = true from h) (by decide)
  | .str x, b, h => by
    cases b with
    | str y =>
      have h' : strEq x y = true := h
      rw [strEq_eq, beq_iff_eq] at h'
      rw [h']
    | _ => exact absurd (show false = true from h) (by decide)
  | .ref x, b, h => by
    cases b with
    | ref y => have h' : sameR x y = true := h; rw [sameR_eq h']
    | _ => exact absurd (show false = true from h) (by decide)
  | .lst h1 a, b, h => by
    cases b with
    | lst h2 b =>
      have h' : (sameH h1 h2 && sameL a b) = true := h
      rw [Bool.and_eq_true] at h'
      rw [sameH_eq h'.1, sameL_eq a b h'.2]
    | _ => exact absurd (show false = true from h) (by decide)
theorem sameL_eq : ∀ (a b : List AV), sameL a b = true → a = b
  | [], b, h => by
    cases b with
    | nil => rfl
    | cons => exact absurd (show false = true from h) (by decide)
  | a :: x, b, h => by
    cases b with
    | nil => exact absurd (show false = true from h) (by decide)
    | cons b y =>
      have h' : (sameV a b && sameL x y) = true := h
      rw [Bool.and_eq_true] at h'
      rw [sameV_eq a b h'.1, sameL_eq x y h'.2]
end
end Den

set_option autoImplicit false
set_option linter.unusedVariables false
set_option linter.unusedSimpArgs false
namespace Den
open Go Go.RowKit
section
variable {ρ : Vl} {w w' w0 : World} {P : Program} {U : TypeId} {B : Nat} {G : Gh} {s : St}
variable {A : Nat → Nat → Bool} {ops : Array Oper} {ss : List DStep} {nt nb0 : Nat} {heap : Bool} {e0 : Env} {S D reads owe : List Nat} {own : Nat → Option Nat} {e : Env} {a : Act}
/-- a read is looked at again -/
theorem Inv.chk {i : Nat} {t : Slot} {g : Gd} {o : ROp} {call : Nat → List AV → St → RC} {x : Ex} {e1 : Env} {s1 : St} (h : Inv U ρ B w0 A ops ss nt e0 nb0 S D reads owe own e s G a w) (hd : ss[i]? = some (.r t g o))
    (hok : ∀ j ∈ D, A i j = true ∨ ∀ t, dW ss j = some t → t ∉ gdS g ++ slotsOf o.opds) (hst : step1 call (.chk t g o) e s = .ok x e1 s1) :
    e1 = e ∧ s1 = s ∧ Inv U ρ B w0 A ops ss nt e0 nb0 S D reads (owe.filter (· != i)) own e s G a w := by
  have hlook : ∀ k ei Di, k = i → (∀ q ∈ Di, q ∈ D) → (∀ j, j < ss.length → A i j = true → j ∈ Di) → EnvAt ss e0 e Di ei → ∀ q ∈ gdS g ++ slotsOf o.opds, ei.get q = e.get q := by
    intro k ei Di _ hsub hA he q hq
    by_cases hex : ∃ j ∈ Di, dW ss j = some q
    · exact (he q).1 hex
    · rw [(he q).2 hex]
      refine (h.env q fun j hj hw => ?_).symm
      rcases hok j hj with ha | hn
      · exact hex ⟨j, hA j (h.dlt j hj) ha, hw⟩
      · exact hn q hw hq
  have same : e1 = e ∧ s1 = s ∧ (wants e g = true → ∃ v, evR e s o = some v ∧ v = e.get t) := by
    simp only [step1] at hst
    split at hst
    · split at hst
      · rename_i v hv
        split at hst
        · rename_i hs
          injection hst with _ h1 h2
          exact ⟨h1.symm, h2.symm, fun _ => ⟨v, hv, sameV_eq _ _ hs⟩⟩
        · cases hst
      · cases hst
    · rename_i hw
      injection hst with _ h1 h2
      exact ⟨h1.symm, h2.symm, fun hw' => by rw [hw] at hw'; cases hw'⟩
  obtain ⟨rfl, rfl, hv⟩ := same
  refine ⟨rfl, rfl, ⟨h.sr, h.size, h.nb, h.sub, h.dlt, h.scl, h.dcl, h.env, h.fitS, h.fitN, ?_, h.rds⟩⟩
  intro k hk hkS
  obtain ⟨d, ei, Di, h1, h2, h3, h4, h5, h6, h7⟩ := h.fact k hk hkS
  refine ⟨d, ei, Di, h1, h2, h3, h4, h5, h6, ?_⟩
  cases d with
  | r t' g' o' =>
    rcases h7 with ⟨q1, q2⟩ | q
    · refine .inl ⟨q1, fun hnot => ?_⟩
      by_cases hki : k = i
      · subst hki
        rw [hd] at h1
        injection h1 with h1
        injection h1 with h1a h1b h1c
        subst h1a; subst h1b; subst h1c
        have hl := hlook k ei Di rfl h2 h4 h6
        have hw : wants e1 g = true := by rw [← q1]; exact (wants_congr fun t ht => (hl t (by simp [ht]))).symm
        obtain ⟨v, hv1, hv2⟩ := hv hw
        rw [evR_congr (e' := e1) fun t ht => hl t (by simp [ht]), hv1, hv2]
      · exact q2 fun hk' => hnot (List.mem_filter.2 ⟨hk', by simpa using hki⟩)
    · exact .inr q
  | _ => exact h7
/-- an operand fits at the moment when the model comes to its operation -/
theorem Inv.fits {i : Nat} {o : Oper} {ei : Env} {Di : List Nat} (hp : Pair P U nt heap ops ss) (he : Edges A ops) (h : Inv U ρ B w0 A ops ss nt e0 nb0 S D reads owe own e s G a w) (ho : ops[i]? = some o) (hi : i ∉ S) (hA : ∀ j, j < ss.length → A i j = true → j ∈ S)
    (h2 : i ∉ Di) (h4 : ∀ j, j < ss.length → A i j = true → j ∈ Di) (h5 : ∀ k ∈ Di, ∀ j, j < ss.length → A k j = true → j ∈ Di) (h6 : EnvAt ss e0 e Di ei) {m : Nat} (hm : m ∈ o.looksAt ops) : Fits ρ G w ei a m := by
  intro t ht
  have hlt : i < ss.length := by rw [hp.len]; exact (Array.getElem?_eq_some_iff.1 ho).1
  by_cases hex : ∃ j ∈ S, dO ops j = some m
  · -- its writer has been: it is an ancestor
    obtain ⟨j, hj, hjo⟩ := hex
    obtain ⟨sl, q1, q2, q3⟩ := hp.w_of hjo
    rw [ht] at q1; injection q1 with q1; subst q1
    have hjlt := h.dlt j (h.sub j hj)
    have hAij : A i j = true := by
      unfold dO at hjo
      split at hjo
      · rename_i o' ho'
        rcases he.dat i j o o' m ho ho' hjo hm with h' | h' | h'
        · exact h'
        · exact absurd (h.scl j hj i hlt h') hi
        · subst h'; exact absurd hj hi
      · cases hjo
    rw [(h6 t).1 ⟨j, h4 j hjlt hAij, q2⟩]
    exact h.fitS m t ht ⟨j, hj, hjo⟩
  · have hn : ¬ ∃ j ∈ Di, dW ss j = some t := by
      rintro ⟨j, hj, hjw⟩
      obtain ⟨m', q1, q2⟩ := hp.o_of hjw
      have := slot_inj ht q2
      subst this
      have hjlt : j < ss.length := by
        unfold dW at hjw
        split at hjw
        · rename_i d hd; exact (List.getElem?_eq_some_iff.1 hd).1
        · cases hjw
      unfold dO at q1
      split at q1
      · rename_i o' ho'
        rcases he.dat i j o o' m ho ho' q1 hm with h' | h' | h'
        · exact hex ⟨j, hA j hjlt h', by unfold dO; rw [ho']; exact q1⟩
        · exact h2 (h5 j hj i hlt h')
        · subst h'; exact h2 hj
      · cases q1
    rw [(h6 t).2 hn]
    exact h.fitN m t ht hex
end
end Den

set_option autoImplicit false
set_option linter.unusedVariables false
set_option linter.unusedSimpArgs false
namespace Den
open Go Go.RowKit
section
variable {ρ : Vl} {w w' w0 : World} {P : Program} {U : TypeId} {B : Nat} {G G' : Gh} {s s1 : St}
variable {A : Nat → Nat → Bool} {ops : Array Oper} {ss : List DStep} {nt nb0 : Nat} {heap : Bool} {e0 : Env} {S D D1 reads reads1 owe owe1 : List Nat} {own : Nat → Option Nat} {e e1 : Env} {a : Act}
/-- one more operation has been done in the model -/
theorem Inv.did {i : Nat} {rv : Value} (hp : Pair P U nt heap ops ss) (he : Edges A ops) (h : Inv U ρ B w0 A ops ss nt e0 nb0 S D reads owe own e s G a w) (hi : i ∉ S) (hiD : i ∈ D1) (hA : ∀ j, j < ss.length → A i j = true → j ∈ S)
    (hD : ∀ k ∈ D, k ∈ D1) (hD1 : ∀ k ∈ D1, k ∈ D ∨ k = i) (hilt : i < ss.length) (hsr : SR U ρ B w0 G' s1 w') (hx : Ext G w G' w') (hnb : nb0 ≤ s1.nb) (hv : ∀ t, dW ss i = some t → VR ρ G' w' (e1.get t) rv)
    (hee : ∀ t, (∀ q, dW ss i = some q → q ≠ t ∨ i ∈ D) → dW ss i ≠ some t ∨ i ∈ D → e1.get t = e.get t) (hf : ∀ k ∈ D1, k ∉ i :: S → Fact A ss e0 nb0 D1 owe1 own e1 s1 G' k) (hrd : ∀ k ∈ D1, k ∉ i :: S → ∀ d, ss[k]? = some d → isRd d = true → k ∈ reads1) :
    Inv U ρ B w0 A ops ss nt e0 nb0 (i :: S) D1 reads1 owe1 own e1 s1 G' (a.put (dO ops i) rv) w' := by
  have hget : ∀ t, dW ss i ≠ some t ∨ i ∈ D → e1.get t = e.get t := fun t ht => hee t (fun q hq => by
    rcases ht with ht | ht
    · left; rintro rfl; exact ht hq
    · exact .inr ht) ht
  refine ⟨hsr, by rw [size_put]; exact h.size, hnb, ?_, ?_, ?_, ?_, ?_, ?_, ?_, hf, hrd⟩
  · intro k hk
    rcases List.mem_cons.1 hk with rfl | hk
    · exact hiD
    · exact hD k (h.sub k hk)
  · intro k hk
    rcases hD1 k hk with hk | rfl
    · exact h.dlt k hk
    · exact hilt
  · intro k hk j hj ha
    rcases List.mem_cons.1 hk with rfl | hk
    · exact List.mem_cons_of_mem _ (hA j hj ha)
    · exact List.mem_cons_of_mem _ (h.scl k hk j hj ha)
  · intro k hk j hj ha
    rcases hD1 k hk with hk | rfl
    · exact hD _ (h.dcl k hk j hj ha)
    · exact hD _ (h.sub _ (hA j hj ha))
  · intro t ht
    rw [hget t (.inl (ht i hiD))]
    exact h.env t fun j hj => ht j (hD j hj)
  · rintro m t hm ⟨j, hj, hjo⟩
    by_cases hmi : dO ops i = some m
    · obtain ⟨sl, q1, q2, q3⟩ := hp.w_of hmi
      rw [hm] at q1; injection q1 with q1; subst q1
      rw [hmi, getD_put_same _ _ _ (Nat.lt_of_lt_of_le q3 h.size)]
      exact hv t q2
    · rcases List.mem_cons.1 hj with rfl | hj
      · exact absurd hjo hmi
      · obtain ⟨sl, q1, q2, q3⟩ := hp.w_of hjo
        rw [hm] at q1; injection q1 with q1; subst q1
        have hne : dW ss i ≠ some t := by
          intro hw
          have := hp.one he hw q2
          subst this; exact hmi hjo
        rw [hget t (.inl hne)]
        have hput : (a.put (dO ops i) rv).tmps.getD m Go.undef = a.tmps.getD m Go.undef := by
          cases hd : dO ops i with
          | none => rfl
          | some q => exact getD_put_ne _ _ _ _ (by rintro rfl; exact hmi hd)
        rw [hput]
        exact (h.fitS m t hm ⟨j, hj, hjo⟩).ext hx
  · intro m t hm hn
    have hmi : dO ops i ≠ some m := fun hq => hn ⟨i, by simp, hq⟩
    have hput : (a.put (dO ops i) rv).tmps.getD m Go.undef = a.tmps.getD m Go.undef := by
      cases hd : dO ops i with
      | none => rfl
      | some q => exact getD_put_ne _ _ _ _ (by rintro rfl; exact hmi hd)
    rw [hput]
    exact (h.fitN m t hm fun ⟨j, hj, hjo⟩ => hn ⟨j, List.mem_cons_of_mem _ hj, hjo⟩).ext hx
end
end Den

set_option autoImplicit false
set_option linter.unusedVariables false
set_option linter.unusedSimpArgs false
namespace Den
open Go Go.RowKit
section
variable {ρ : Vl} {w w' w0 : World} {P : Program} {U : TypeId} {B : Nat} {G G' : Gh} {s s1 : St}
variable {A : Nat → Nat → Bool} {ops : Array Oper} {ss : List DStep} {nt nb0 : Nat} {heap : Bool} {e0 : Env} {S D reads owe : List Nat} {own : Nat → Option Nat} {e e1 : Env} {a : Act}
theorem mem_looks {o : Oper} {n : Nat} (h : Operand.tmp n ∈ o.op.operands) : n ∈ o.looksAt ops :=
  List.mem_append_left _ (List.mem_filterMap.2 ⟨.tmp n, by simpa using h, rfl⟩)
theorem guard_looks {o : Oper} {j d : Nat} {b : Bool} (h : o.guard = some (j, b)) (hd : (ops[j]?).bind (·.dst) = some d) : d ∈ o.looksAt ops := by
  unfold Oper.looksAt
  rw [h]
  exact List.mem_append_right _ (by simp [hd])
theorem toStep_inv {o : Oper} {d : DStep} (h : toStep P U nt heap ops o = some d) : ∃ g, guardOf ops o.guard = some g ∧ match d with
    | .p _ g' x => g' = g ∧ comp P U heap o = some (.p x)
    | .r _ g' x => g' = g ∧ comp P U heap o = some (.r x)
    | .a _ g' x => g' = g ∧ comp P U heap o = some (.a x)
    | .e _ g' x => g' = g ∧ comp P U heap o = some (.e x)
    | .call _ g' f as => g' = g ∧ comp P U heap o = some (.call f as)
    | .chk _ _ _ => False := by
  unfold toStep at h
  split at h <;> first | (cases h; done) | skip
  all_goals rename_i g q hg hcomp
  all_goals (split at h <;> first | (cases h; done) | skip)
  all_goals (injection h with h; subst h; exact ⟨_, hg, rfl, hcomp⟩)
theorem Fact.shift {k : Nat} (h : Fact A ss e0 nb0 D owe own e s G k) (hG : ∀ m id, Pend G s m id → (m.isBlk = true → own id = some k) → Pend G' s m id) : Fact A ss e0 nb0 D owe own e s G' k := by
  obtain ⟨d, ei, Di, h1, h2, h3, h4, h5, h6, h7⟩ := h
  refine ⟨d, ei, Di, h1, h2, h3, h4, h5, h6, ?_⟩
  cases d with
  | a t g o =>
    rcases h7 with ⟨q1, m, id, q2, q3, q4, q5⟩ | q
    · exact .inl ⟨q1, m, id, q2, q3, hG m id q4 fun hb => (q5 hb).1, q5⟩
    · exact .inr q
  | _ => exact h7
theorem Pend.other {m : Made} {id : Nat} (h : Pend G s m id) (hio : m.isBlk = true → G'.io id = none) : Pend G' s m id := by
  cases m with
  | cells cs => exact ⟨h.1, hio rfl, h.2.2⟩
  | cellsT t cs => exact ⟨h.1, hio rfl, h.2.2⟩
  | map => exact ⟨h.1, hio rfl, h.2.2⟩
  | sl heap u z xs xc =>
    cases heap
    · exact h
    · exact ⟨h.1, hio rfl, h.2.2⟩
/-- the model does an operation that the abstract machine has done -/
theorem Inv.run {i : Nat} {o : Oper} {K : Act → World → Prop} {Q : Exit → Act → World → Prop} (hp : Pair P U nt heap ops ss) (he : Edges A ops) (h : Inv U ρ B w0 A ops ss nt e0 nb0 S D reads [] own e s G a w) (ho : ops[i]? = some o) (hi : i ∉ S) (hiD : i ∈ D) (hA : ∀ j, j < ss.length → A i j = true → j ∈ S)
    (hK : ∀ G' a' w', Inv U ρ B w0 A ops ss nt e0 nb0 (i :: S) D reads [] own e s G' a' w' → Ext G w G' w' → (∀ b, b < nb0 → G.io b = none → G'.io b = none) → a'.defers = a.defers → K a' w') : wpOp P ops Q i K a w := by
  have hf := h.fact i hiD hi
  obtain ⟨d, ei, Di, h1, h2, h3, h4, h5, h6, h7⟩ := hf
  obtain ⟨d', hd', hst⟩ := hp.get i o ho
  rw [h1] at hd'; injection hd' with hd'; subst hd'
  obtain ⟨g, hg, hinv⟩ := toStep_inv hst
  have hfit : ∀ m ∈ o.looksAt ops, Fits ρ G w ei a m := fun m hm => h.fits hp he ho hi hA h3 h4 h5 h6 hm
  have rd : Rd ρ G w ei a o := fun x hx ox hox => cOpd_ok hox fun n hn => hfit n (mem_looks (by subst hn; exact hx))
  have hw : Region.wanted o (yielded ops a.tmps) = wants ei g := wants_ok hg fun j b q hj hq => hfit q (guard_looks hj hq)
  have hdst : o.dst = dO ops i := by unfold dO; rw [ho]
  have hwd : dW ss i = wdst d := by unfold dW; rw [h1]
  have hilt := h.dlt i hiD
  have did : ∀ {rv : Value} {G' : Gh} {w' : World}, SR U ρ B w0 G' s w' → Ext G w G' w' → (∀ t, dW ss i = some t → VR ρ G' w' (e.get t) rv) → (∀ k ∈ D, k ∉ i :: S → Fact A ss e0 nb0 D [] own e s G' k) → Inv U ρ B w0 A ops ss nt e0 nb0 (i :: S) D reads [] own e s G' (a.put o.dst rv) w' := by
    intro rv G' w' hsr hx hv hfk
    rw [hdst]
    exact h.did hp he hi hiD hA (fun k hk => hk) (fun k hk => .inl hk) hilt hsr hx h.nb hv (fun t _ _ => rfl) hfk (fun k hk hk' d hd hrd => h.rds k hk (fun hq => hk' (List.mem_cons_of_mem _ hq)) d hd hrd)
  have keep : ∀ k ∈ D, k ∉ i :: S → Fact A ss e0 nb0 D [] own e s G k := fun k hk hk' => h.fact k hk fun hq => hk' (List.mem_cons_of_mem _ hq)
  unfold wpOp
  rw [ho]
  simp only
  rw [hw]
  have skip : ∀ t, wdst d = some t → e.get t = .lst .tup [] → wants ei g = false → (if wants ei g = true then o.wp P a w K Q ∨ (o.asks P a w ∧ LetsOut Q) else K (a.put o.dst Go.undef) w) := by
    intro t ht hu hwf
    rw [hwf]
    simp only [Bool.false_eq_true, if_false]
    refine hK G _ w (did h.sr (Ext.refl _ _) (fun t' ht' => ?_) keep) (Ext.refl _ _) (fun b _ hb => hb) (put_defers _ _ _)
    rw [hwd, ht] at ht'; injection ht' with ht'; subst ht'
    rw [hu]; exact .undef
  cases d with
  | p t g' x =>
    obtain ⟨rfl, hcomp⟩ := hinv
    rcases h7 with ⟨q1, q2⟩ | ⟨q1, q2⟩
    · rw [q1]
      simp only [if_true]
      left
      obtain ⟨rv, r1, r2⟩ := evP_ok hcomp rd q2
      simp only [Oper.wp, r1, Oper.upon_value]
      refine hK G _ w (did h.sr (Ext.refl _ _) (fun t' ht' => ?_) keep) (Ext.refl _ _) (fun b _ hb => hb) (put_defers _ _ _)
      rw [hwd] at ht'; injection ht' with ht'; subst ht'; exact r2
    · exact skip t rfl q2 q1
  | r t g' x =>
    obtain ⟨rfl, hcomp⟩ := hinv
    rcases h7 with ⟨q1, q2⟩ | ⟨q1, q2⟩
    · rw [q1]
      simp only [if_true]
      left
      obtain ⟨rv, r1, r2⟩ := evR_ok hcomp rd h.sr (q2 (by simp))
      simp only [Oper.wp, r1, Oper.upon_value]
      refine hK G _ w (did h.sr (Ext.refl _ _) (fun t' ht' => ?_) keep) (Ext.refl _ _) (fun b _ hb => hb) (put_defers _ _ _)
      rw [hwd] at ht'; injection ht' with ht'; subst ht'; exact r2
    · exact skip t rfl q2 q1
  | a t g' x =>
    obtain ⟨rfl, hcomp⟩ := hinv
    rcases h7 with ⟨q1, m, id, q2, q3, q4, q5⟩ | ⟨q1, q2⟩
    · rw [q1]
      simp only [if_true]
      left
      obtain ⟨rv, w', G', r1, r2, r3, r4, r5⟩ := evA_real hcomp rd h.sr q2 q4
      simp only [Oper.wp, r1, Oper.upon_value]
      refine hK G' _ w' (did r2 r3 (fun t' ht' => ?_) fun k hk hk' => (keep k hk hk').shift fun m' id' hp' hb' => hp'.other fun hblk => ?_) r3 (fun b hb hg => ?_) (put_defers _ _ _)
      · rw [hwd] at ht'; injection ht' with ht'; subst ht'; rw [q3]; exact r4
      · have hio : G.io id' = none := by
          cases m' with
          | cells cs => exact hp'.2.1
          | cellsT t cs => exact hp'.2.1
          | map => exact hp'.2.1
          | sl heap u z xs xc => cases heap; cases hblk; exact hp'.2.1
        rcases r5 id' hio with h' | ⟨h', h''⟩
        · exact h'
        · have e1 := (q5 h'').1
          have e2 := hb' hblk
          rw [h', e1] at e2
          injection e2 with e2
          exact absurd (by simp [e2]) hk'
      · rcases r5 b hg with h' | ⟨h', h''⟩
        · exact h'
        · have := (q5 h'').2; omega
    · exact skip t rfl q2 q1
  | e t g' x => exact h7.elim
  | call t g' f as => exact h7.elim
  | chk t g' x => exact h7.elim
end
end Den

set_option autoImplicit false
set_option linter.unusedVariables false
set_option linter.unusedSimpArgs false
namespace Den
open Go Go.RowKit
section
variable {ρ : Vl} {w w' w0 : World} {P : Program} {U : TypeId} {B : Nat} {G G' : Gh} {s s1 : St}
variable {A : Nat → Nat → Bool} {ops : Array Oper} {ss : List DStep} {nt nb0 : Nat} {heap : Bool} {e0 : Env} {S D reads owe : List Nat} {own : Nat → Option Nat} {e e1 : Env} {a : Act}
theorem Pend.nxt {m : Made} {id : Nat} (n : Nxt G s G' s1) (h : Pend G s m id) : Pend G' s1 m id := by
  cases m with
  | cells cs => obtain ⟨h1, h2, h3⟩ := h; obtain ⟨k1, k2⟩ := n.pend id h1 h2; exact ⟨Nat.lt_of_lt_of_le h1 n.nb, k1, by rw [k2]; exact h3⟩
  | cellsT t cs => obtain ⟨h1, h2, h3⟩ := h; obtain ⟨k1, k2⟩ := n.pend id h1 h2; exact ⟨Nat.lt_of_lt_of_le h1 n.nb, k1, by rw [k2]; exact h3⟩
  | map => obtain ⟨h1, h2, h3⟩ := h; obtain ⟨k1, k2⟩ := n.pend id h1 h2; exact ⟨Nat.lt_of_lt_of_le h1 n.nb, k1, by rw [k2]; exact h3⟩
  | sl heap u z xs xc =>
    cases heap
    · obtain ⟨h1, h2, T, h3, h4⟩ := h
      obtain ⟨T', h5, h6⟩ := n.top id T h3
      exact ⟨Nat.lt_of_lt_of_le h1 n.nt, h2, T', h5, Nat.le_trans h4 h6⟩
    · obtain ⟨h1, h2, h3⟩ := h; obtain ⟨k1, k2⟩ := n.pend id h1 h2; exact ⟨Nat.lt_of_lt_of_le h1 n.nb, k1, by rw [k2]; exact h3⟩
/-- an effect: both machines do it -/
theorem Inv.eff {i : Nat} {o : Oper} {d : DStep} {call : Nat → List AV → St → RC} {x : Ex} {K : Act → World → Prop} {Q : Exit → Act → World → Prop} (hc : CallsOK P U ρ B w0 call) (hp : Pair P U nt heap ops ss) (he : Edges A ops) (h : Inv U ρ B w0 A ops ss nt e0 nb0 S D reads [] own e s G a w) (ho : ops[i]? = some o) (hd : ss[i]? = some d) (heff : isEff d = true)
    (hi : i ∉ D) (hA : ∀ j, j < ss.length → A i j = true → j ∈ S) (hst : step1 call d e s = .ok x e1 s1)
    (hK : ∀ G' a' w', Inv U ρ B w0 A ops ss nt e0 nb0 (i :: S) (i :: D) (reads.filter fun r => !A i r) (reads.filter fun r => !A i r) own e1 s1 G' a' w' → Ext G w G' w' → Nxt G s G' s1 → a'.defers = a.defers → K a' w') : wpOp P ops Q i K a w := by
  obtain ⟨d', hd', hts⟩ := hp.get i o ho
  rw [hd] at hd'; injection hd' with hd'; subst hd'
  obtain ⟨g, hg, hinv⟩ := toStep_inv hts
  have hiS : i ∉ S := fun hq => hi (h.sub i hq)
  have henv : EnvAt ss e0 e D e := fun t => ⟨fun _ => rfl, fun hn => h.env t fun j hj hw => hn ⟨j, hj, hw⟩⟩
  have hAD : ∀ j, j < ss.length → A i j = true → j ∈ D := fun j hj ha => h.sub j (hA j hj ha)
  have hfit : ∀ m ∈ o.looksAt ops, Fits ρ G w e a m := fun m hm => h.fits hp he ho hiS hA hi hAD h.dcl henv hm
  have rd : Rd ρ G w e a o := fun x hx ox hox => cOpd_ok hox fun n hn => hfit n (mem_looks (by subst hn; exact hx))
  have hw : Region.wanted o (yielded ops a.tmps) = wants e g := wants_ok hg fun j b q hj hq => hfit q (guard_looks hj hq)
  have hdst : o.dst = dO ops i := by unfold dO; rw [ho]
  have hwd : dW ss i = wdst d := by unfold dW; rw [hd]
  have hilt : i < ss.length := (List.getElem?_eq_some_iff.1 hd).1
  have did : ∀ {rv : Value} {v : AV} {s1 : St} {G' : Gh} {w' : World}, SR U ρ B w0 G' s1 w' → Ext G w G' w' → Nxt G s G' s1 → VR ρ G' w' v rv →
      Inv U ρ B w0 A ops ss nt e0 nb0 (i :: S) (i :: D) (reads.filter fun r => !A i r) (reads.filter fun r => !A i r) own (putO e (dW ss i) v) s1 G' (a.put o.dst rv) w' := by
    intro rv v s1 G' w' hsr hx hn hv
    rw [hdst]
    have inReads : ∀ k ∈ D, k ∉ S → ∀ dk, ss[k]? = some dk → isRd dk = true → k ∈ reads.filter fun r => !A i r := by
      intro k hk hkS dk hdk hrk
      refine List.mem_filter.2 ⟨h.rds k hk hkS dk hdk hrk, ?_⟩
      cases ha : A i k
      · rfl
      · exact absurd (hA k (h.dlt k hk) ha) hkS
    refine h.did hp he hiS (by simp) hA (fun k hk => List.mem_cons_of_mem _ hk) (fun k hk => ?_) hilt hsr hx (Nat.le_trans h.nb hn.nb) (fun t ht => ?_) (fun t _ ht => ?_) (fun k hk hk' => ?_) (fun k hk hk' dk hdk hrk => ?_)
    · rcases List.mem_cons.1 hk with h' | h'
      · exact .inr h'
      · exact .inl h'
    · rw [ht, get_putO_eq]; exact hv
    · rcases ht with ht | ht
      · exact get_putO_ne ht
      · exact absurd ht hi
    · have hkD : k ∈ D := by
        rcases List.mem_cons.1 hk with rfl | h'
        · exact absurd (by simp) hk'
        · exact h'
      have hkS : k ∉ S := fun hq => hk' (List.mem_cons_of_mem _ hq)
      obtain ⟨dk, ek, Dk, h1, h2, h3, h4, h5, h6, h7⟩ := h.fact k hkD hkS
      refine ⟨dk, ek, Dk, h1, fun q hq => List.mem_cons_of_mem _ (h2 q hq), h3, h4, h5, h6.put hp he h2 hi, ?_⟩
      have hne : ∀ t, wdst dk = some t → (putO e (dW ss i) v).get t = e.get t := by
        intro t ht
        refine get_putO_ne fun hw' => ?_
        have : dW ss k = some t := by unfold dW; rw [h1]; exact ht
        have := hp.one he hw' this
        subst this
        exact hi hkD
      cases dk with
      | p t g' o' => simp only [hne t rfl]; exact h7
      | r t g' o' =>
        simp only [hne t rfl]
        rcases h7 with ⟨q1, q2⟩ | q
        · exact .inl ⟨q1, fun hnot => absurd (inReads k hkD hkS _ h1 rfl) hnot⟩
        · exact .inr q
      | a t g' o' =>
        simp only [hne t rfl]
        rcases h7 with ⟨q1, m, id, q2, q3, q4, q5⟩ | q
        · exact .inl ⟨q1, m, id, q2, q3, q4.nxt hn, q5⟩
        · exact .inr q
      | _ => exact h7
    · have hkD : k ∈ D := by
        rcases List.mem_cons.1 hk with rfl | h'
        · exact absurd (by simp) hk'
        · exact h'
      exact inReads k hkD (fun hq => hk' (List.mem_cons_of_mem _ hq)) dk hdk hrk
  unfold wpOp
  rw [ho]
  simp only
  rw [hw]
  cases d with
  | e t g' q =>
    obtain ⟨rfl, hcomp⟩ := hinv
    have hwt : dW ss i = t := hwd
    simp only [step1] at hst
    split at hst
    · rename_i hwe
      rw [hwe]
      simp only [if_true]
      split at hst
      · rename_i v s2 hv
        injection hst with _ h1 h2; subst h1; subst h2
        obtain ⟨nx, rv, w', G', r1, r0, r2, r3, r4, r5⟩ := evE_real hcomp rd h.sr hv
        left
        have := did r2 r3 r4 r5
        rw [hwt] at this
        have fin := hK G' _ w' this r3 r4 (put_defers _ _ _)
        rcases r0 with rfl | ⟨rfl, rfl⟩
        · simp only [Oper.wp, r1, Oper.upon_value]; exact fin
        · simp only [Oper.wp, r1, Oper.upon_skip]; exact fin
      · cases hst
    · rename_i hwe
      rw [hwe]
      simp only [Bool.false_eq_true, if_false]
      injection hst with _ h1 h2; subst h1; subst h2
      have := did h.sr (Ext.refl _ _) (Nxt.refl _ _) .undef
      rw [hwt] at this
      exact hK G _ w this (Ext.refl _ _) (Nxt.refl _ _) (put_defers _ _ _)
  | call t g' f as =>
    obtain ⟨rfl, hcomp⟩ := hinv
    have hwt : dW ss i = t := hwd
    simp only [step1] at hst
    split at hst
    · rename_i hwe
      rw [hwe]
      simp only [if_true]
      split at hst
      · rename_i fid n xs hf
        split at hst
        · rename_i v s2 hcall
          injection hst with _ h1 h2; subst h1; subst h2
          left
          exact call_real h.sr hc hcomp rd hf hcall fun rv G' w' q1 q2 q3 q4 => by
            have := did q1 q2 q3 q4
            rw [hwt] at this
            exact hK G' _ w' this q2 q3 (put_defers _ _ _)
        · cases hst
      · cases hst
    · rename_i hwe
      rw [hwe]
      simp only [Bool.false_eq_true, if_false]
      injection hst with _ h1 h2; subst h1; subst h2
      have := did h.sr (Ext.refl _ _) (Nxt.refl _ _) .undef
      rw [hwt] at this
      exact hK G _ w this (Ext.refl _ _) (Nxt.refl _ _) (put_defers _ _ _)
  | _ => cases heff
end
end Den

set_option autoImplicit false
set_option linter.unusedVariables false
set_option linter.unusedSimpArgs false
namespace Den
open Go Go.RowKit
section
variable {ρ : Vl} {w w' w0 : World} {P : Program} {U : TypeId} {B : Nat} {G G' : Gh} {s s1 : St}
variable {A : Nat → Nat → Bool} {ops : Array Oper} {ss : List DStep} {nt nb0 : Nat} {heap : Bool} {e0 : Env} {S D reads owe : List Nat} {own : Nat → Option Nat} {e e1 : Env} {a : Act}
def itemD (ss : List DStep) (p : Nat × Bool) : DStep := if p.2 then chkOf (ss.getD p.1 default) else ss.getD p.1 default
def headE (ss : List DStep) : List (Nat × Bool) → Prop
  | [] => True
  | (i, c) :: _ => c = false ∧ ∃ d, ss[i]? = some d ∧ isEff d = true
theorem getD_of {i : Nat} {d : DStep} (h : ss[i]? = some d) : ss.getD i default = d := by simp [List.getD, h]
/-- an abstract move without the model -/
theorem abs_nxt {call : Nat → List AV → St → RC} {d : DStep} {x : Ex} (h : SR U ρ B w0 G s w) (hne : isEff d = false) (hok : ∀ t g o, d = .a t g o → o.okU) (hst : step1 call d e s = .ok x e1 s1) : Nxt G s G s1 := by
  cases d with
  | p t g o =>
    simp only [step1] at hst
    split at hst
    · split at hst
      · injection hst with _ _ h2; subst h2; exact Nxt.refl _ _
      · cases hst
    · injection hst with _ _ h2; subst h2; exact Nxt.refl _ _
  | r t g o =>
    simp only [step1] at hst
    split at hst
    · split at hst
      · injection hst with _ _ h2; subst h2; exact Nxt.refl _ _
      · cases hst
    · injection hst with _ _ h2; subst h2; exact Nxt.refl _ _
  | a t g o =>
    simp only [step1] at hst
    split at hst
    · split at hst
      · rename_i v s2 hv
        injection hst with _ _ h2; subst h2
        unfold evA at hv
        split at hv
        · rename_i m hm
          have := (h.made (made_ok (hok t g o rfl) hm)).2
          injection hv with hv
          rw [hv] at this
          exact this
        · cases hv
      · cases hst
    · injection hst with _ _ h2; subst h2; exact Nxt.refl _ _
  | e t g o => cases hne
  | call t g f as => cases hne
  | chk t g o =>
    simp only [step1] at hst
    split at hst
    · split at hst
      · split at hst
        · injection hst with _ _ h2; subst h2; exact Nxt.refl _ _
        · cases hst
      · cases hst
    · injection hst with _ _ h2; subst h2; exact Nxt.refl _ _
/-- the abstract machine goes ahead as far as it can -/
theorem Inv.ahead {call : Nat → List AV → St → RC} {x : Ex} {e' : Env} {s' : St} (hp : Pair P U nt heap ops ss) (he : Edges A ops) : ∀ {l : List (Nat × Bool)} {D reads owe : List Nat} {own : Nat → Option Nat} {e : Env} {s : St}, okI A ss D reads owe l = true → steps call (l.map (itemD ss)) e s = .ok x e' s' →
    Inv U ρ B w0 A ops ss nt e0 nb0 S D reads owe own e s G a w → ∃ l1 D1 reads1 own1 e1 s1, okI A ss D1 reads1 [] l1 = true ∧ headE ss l1 ∧ steps call (l1.map (itemD ss)) e1 s1 = .ok x e' s' ∧ Inv U ρ B w0 A ops ss nt e0 nb0 S D1 reads1 [] own1 e1 s1 G a w ∧ Nxt G s G s1
  | [], D, reads, owe, own, e, s, hok, hst, h => by
    have hok' := hok
    simp only [okI, Bool.and_eq_true] at hok'
    have howe : owe = [] := by simpa using hok'.1
    subst howe
    exact ⟨[], D, reads, own, e, s, hok, trivial, hst, h, Nxt.refl _ _⟩
  | (i, true) :: l, D, reads, owe, own, e, s, hok, hst, h => by
    simp only [okI, Bool.and_eq_true] at hok
    obtain ⟨h1, h2⟩ := hok
    cases hd : ss[i]? with
    | none => simp [hd] at h1
    | some d =>
      rw [hd] at h1
      simp only [Bool.and_eq_true, List.all_eq_true, Bool.or_eq_true] at h1
      obtain ⟨h3, h4⟩ := h1
      cases d with
      | r t g o =>
        simp only [List.map_cons] at hst
        obtain ⟨y, e1, s1, k1, k2⟩ := steps_ok hst
        have hi : itemD ss (i, true) = .chk t g o := by simp [itemD, hd, chkOf]
        rw [hi] at k1
        obtain ⟨rfl, rfl, k3⟩ := h.chk hd (fun j hj => by
          rcases h4 j hj with h' | h'
          · exact .inl h'
          · right
            intro t' ht'
            unfold dW at ht'
            split at ht'
            · rename_i d' hd'
              rw [hd'] at h'
              simp only [ht', looks] at h'
              simpa using h'
            · cases ht') k1
        exact Inv.ahead hp he h2 k2 k3
      | _ => cases h3
  | (i, false) :: l, D, reads, owe, own, e, s, hok, hst, h => by
    have hok' := hok
    simp only [okI, Bool.and_eq_true] at hok'
    obtain ⟨⟨⟨h1, h2⟩, h3⟩, h4⟩ := hok'
    have howe : owe = [] := by simpa using h1
    subst howe
    have hi : i ∉ D := by simpa using h2
    have hA : ∀ j, j < ss.length → A i j = true → j ∈ D := by
      rw [List.all_eq_true] at h3
      intro j hj ha
      have := h3 j (List.mem_range.2 hj)
      simpa [ha] using this
    cases hd : ss[i]? with
    | none => simp [hd] at h4
    | some d =>
      rw [hd] at h4
      simp only at h4
      cases heff : isEff d
      · simp only [heff, Bool.false_eq_true, if_false] at h4
        simp only [List.map_cons] at hst
        obtain ⟨y, e1, s1, k1, k2⟩ := steps_ok hst
        have hit : itemD ss (i, false) = d := by simp [itemD, hd]
        rw [hit] at k1
        have hlt : i < ops.size := by rw [← hp.len]; exact (List.getElem?_eq_some_iff.1 hd).1
        obtain ⟨d', hd', hts⟩ := hp.get i ops[i] (by simp [hlt])
        rw [hd] at hd'; injection hd' with hd'; subst hd'
        obtain ⟨g, hg, hinv⟩ := toStep_inv hts
        have hokU : ∀ t g o, d = .a t g o → o.okU := fun t g o hq => by subst hq; exact comp_okU hinv.2
        obtain ⟨own', k3⟩ := h.abs hp he hd heff (fun t g o hq => by subst hq; exact hinv.elim) hokU hi hA k1
        have k4 := abs_nxt h.sr heff hokU k1
        obtain ⟨l1, D1, r1, o1, e2, s2, m1, m2, m3, m4, m5⟩ := Inv.ahead hp he h4 k2 k3
        exact ⟨l1, D1, r1, o1, e2, s2, m1, m2, m3, m4, k4.trans m5⟩
      · exact ⟨(i, false) :: l, D, reads, own, e, s, hok, ⟨rfl, d, hd, heff⟩, hst, h, Nxt.refl _ _⟩
end
end Den

set_option autoImplicit false
set_option linter.unusedVariables false
set_option linter.unusedSimpArgs false
namespace Den
open Go Go.RowKit
theorem count_set : ∀ {l : List Bool} {i : Nat}, l[i]? = some false → (l.set i true).count false + 1 = l.count false
  | [], i, h => by simp at h
  | b :: l, 0, h => by simp at h; subst h; simp
  | b :: l, i + 1, h => by
    simp at h
    have := count_set h
    cases b <;> simp at this ⊢ <;> omega
section
variable {ρ : Vl} {w0 : World} {P : Program} {U : TypeId} {B : Nat}
variable {A : Nat → Nat → Bool} {ops : Array Oper} {ss : List DStep} {nt nb0 : Nat} {heap : Bool} {e0 : Env}
theorem ready_iff {listed : Array Bool} {i : Nat} : i ∈ Region.ready .any ops listed ↔ ∃ o, ops[i]? = some o ∧ listed.getD i true = false ∧ ∀ ed ∈ o.after, Region.binds .any ed = true → listed.getD ed.on false = true := by
  unfold Region.ready
  rw [List.mem_filter]
  constructor
  · rintro ⟨h1, h2⟩
    have hlt : i < ops.size := List.mem_range.1 h1
    refine ⟨ops[i], by simp [hlt], ?_⟩
    simp only [Bool.and_eq_true, Bool.not_eq_true', hlt, getElem?_pos, Option.map_some, Option.getD_some, Array.all_eq_true_iff_forall_mem, Bool.or_eq_true] at h2
    refine ⟨h2.1, fun ed hed hb => ?_⟩
    rcases h2.2 ed hed with h' | h'
    · rw [hb] at h'; cases h'
    · exact h'
  · rintro ⟨o, h1, h2, h3⟩
    have hlt : i < ops.size := (Array.getElem?_eq_some_iff.1 h1).1
    refine ⟨List.mem_range.2 hlt, ?_⟩
    simp only [Bool.and_eq_true, Bool.not_eq_true', h1, Option.map_some, Option.getD_some, Array.all_eq_true_iff_forall_mem, Bool.or_eq_true]
    refine ⟨h2, fun ed hed => ?_⟩
    cases hb : Region.binds .any ed
    · exact .inl rfl
    · exact .inr (h3 ed hed hb)
theorem getD_lt {l : Array Bool} {i : Nat} (h : i < l.size) (b : Bool) : l.getD i b = l[i] := by simp [Array.getD, h]
theorem okI_mem {i : Nat} : ∀ {l : List (Nat × Bool)} {done reads owe : List Nat}, okI A ss done reads owe l = true → i < ss.length → i ∉ done → (i, false) ∈ l
  | [], done, reads, owe, h, hi, hn => by
    simp only [okI, Bool.and_eq_true, List.all_eq_true] at h
    have := h.2 i (List.mem_range.2 hi)
    exact absurd (by simpa using this) hn
  | (j, true) :: l, done, reads, owe, h, hi, hn => by
    simp only [okI, Bool.and_eq_true] at h
    exact List.mem_cons_of_mem _ (okI_mem h.2 hi hn)
  | (j, false) :: l, done, reads, owe, h, hi, hn => by
    simp only [okI, Bool.and_eq_true] at h
    obtain ⟨⟨⟨h1, h2⟩, h3⟩, h4⟩ := h
    by_cases hij : i = j
    · subst hij; simp
    · have hn' : i ∉ j :: done := by simp [hij, hn]
      cases hd : ss[j]? with
      | none => simp [hd] at h4
      | some d =>
        rw [hd] at h4
        simp only at h4
        split at h4
        · simp only [Bool.and_eq_true] at h4
          exact List.mem_cons_of_mem _ (okI_mem h4.2 hi hn')
        · exact List.mem_cons_of_mem _ (okI_mem h4 hi hn')
theorem okI_rank : ∀ {l : List (Nat × Bool)} {done reads owe : List Nat}, okI A ss done reads owe l = true → ∀ (r : Nat → Nat) (N : Nat), (∀ i ∈ done, r i < N) → (∀ i ∈ done, ∀ j, j < ss.length → A i j = true → j ∈ done ∧ r j < r i) →
    ∃ r' : Nat → Nat, ∀ i, i < ss.length → ∀ j, j < ss.length → A i j = true → r' j < r' i
  | [], done, reads, owe, h, r, N, h1, h2 => by
    simp only [okI, Bool.and_eq_true, List.all_eq_true] at h
    refine ⟨r, fun i hi j hj ha => (h2 i ?_ j hj ha).2⟩
    simpa using h.2 i (List.mem_range.2 hi)
  | (j, true) :: l, done, reads, owe, h, r, N, h1, h2 => by
    simp only [okI, Bool.and_eq_true] at h
    exact okI_rank h.2 r N h1 h2
  | (q, false) :: l, done, reads, owe, h, r, N, h1, h2 => by
    simp only [okI, Bool.and_eq_true] at h
    obtain ⟨⟨⟨k1, k2⟩, k3⟩, k4⟩ := h
    have hq : q ∉ done := by simpa using k2
    have hA : ∀ j, j < ss.length → A q j = true → j ∈ done := by
      rw [List.all_eq_true] at k3
      intro j hj ha
      have := k3 j (List.mem_range.2 hj)
      simpa [ha] using this
    have m1 : ∀ i ∈ q :: done, (fun x => if x = q then N else r x) i < N + 1 := by
      intro i hi
      rcases List.mem_cons.1 hi with rfl | hi'
      · simp
      · have : i ≠ q := fun hh => hq (hh ▸ hi')
        simp only [if_neg this]
        have := h1 i hi'; omega
    have m2 : ∀ i ∈ q :: done, ∀ j, j < ss.length → A i j = true → j ∈ q :: done ∧ (fun x => if x = q then N else r x) j < (fun x => if x = q then N else r x) i := by
      intro i hi j hj ha
      rcases List.mem_cons.1 hi with rfl | hi'
      · have hjd := hA j hj ha
        have : j ≠ i := by rintro rfl; exact hq hjd
        exact ⟨List.mem_cons_of_mem _ hjd, by simp only [if_neg this, if_true]; exact h1 j hjd⟩
      · obtain ⟨p1, p2⟩ := h2 i hi' j hj ha
        have e1 : j ≠ q := fun hh => hq (hh ▸ p1)
        have e2 : i ≠ q := fun hh => hq (hh ▸ hi')
        exact ⟨List.mem_cons_of_mem _ p1, by simp only [if_neg e1, if_neg e2]; exact p2⟩
    cases hd : ss[q]? with
    | none => simp [hd] at k4
    | some d =>
      rw [hd] at k4
      simp only at k4
      split at k4
      · simp only [Bool.and_eq_true] at k4
        exact okI_rank k4.2 _ _ m1 m2
      · exact okI_rank k4 _ _ m1 m2
/-- the end of a region -/
theorem Inv.finish {S D reads : List Nat} {own : Nat → Option Nat} {e : Env} {s : St} {G : Gh} {a : Act} {w : World} (hp : Pair P U nt heap ops ss) (h : Inv U ρ B w0 A ops ss nt e0 nb0 S D reads [] own e s G a w) (hall : ∀ i, i < ops.size → i ∈ S) : Run U ρ B w0 nt G e s a w := by
  refine ⟨h.sr, fun n t ht => ?_, h.size⟩
  by_cases hex : ∃ j ∈ S, dO ops j = some n
  · exact h.fitS n t ht hex
  · rw [h.env t fun j hj hw => ?_]
    · exact h.fitN n t ht hex
    · obtain ⟨m, q1, q2⟩ := hp.o_of hw
      have := slot_inj ht q2
      subst this
      exact hex ⟨j, hall j (by rw [← hp.len]; exact h.dlt j hj), q1⟩
/-- all orders -/
theorem sim {call : Nat → List AV → St → RC} {Q : Exit → Act → World → Prop} {x : Ex} {e' : Env} {s' s0 : St} {G0 : Gh} {wi : World} {df : List Deferred} (hc : CallsOK P U ρ B w0 call) (hp : Pair P U nt heap ops ss) (he : Edges A ops) (hrank : ∃ r : Nat → Nat, ∀ i, i < ss.length → ∀ j, j < ss.length → A i j = true → r j < r i)
    (hQ : ∀ G a w, Run U ρ B w0 nt G e' s' a w → Ext G0 wi G w → Nxt G0 s0 G s' → a.defers = df → Q .normal a w) :
    ∀ (fuel : Nat) (listed : Array Bool) (S D reads owe : List Nat) (own : Nat → Option Nat) (e : Env) (s : St) (G : Gh) (a : Act) (w : World) (l : List (Nat × Bool)), okI A ss D reads owe l = true → steps call (l.map (itemD ss)) e s = .ok x e' s' → Inv U ρ B w0 A ops ss nt e0 s0.nb S D reads owe own e s G a w →
      listed.size = ops.size → (∀ i, i < ops.size → (listed.getD i true = true ↔ i ∈ S)) → listed.toList.count false ≤ fuel → Ext G0 wi G w → Nxt G0 s0 G s → a.defers = df → wpAny P .any ops Q fuel listed a w := by
  intro fuel
  induction fuel with
  | zero =>
    intro listed S D reads owe own e s G a w l hok hst hinv hls hlS hcnt hx hn hdf
    have hz : Region.ready .any ops listed = [] := by
      cases hr : Region.ready .any ops listed with
      | nil => rfl
      | cons i r =>
        have : i ∈ Region.ready .any ops listed := by rw [hr]; simp
        obtain ⟨o, h1, h2, h3⟩ := ready_iff.1 this
        have hlt : i < listed.size := by rw [hls]; exact (Array.getElem?_eq_some_iff.1 h1).1
        rw [getD_lt hlt] at h2
        have := count_set (l := listed.toList) (i := i) (by simp [hlt, h2])
        omega
    refine ⟨hz, ?_⟩
    obtain ⟨l1, D1, reads1, own1, e1, s1, hok1, hhead, hst1, hinv1, hn1⟩ := hinv.ahead hp he hok hst
    have hall : ∀ i, i < ops.size → i ∈ S := by
      intro i hi
      rw [← hlS i hi, getD_lt (by omega)]
      cases hb : listed[i]'(by omega)
      · have := count_set (l := listed.toList) (i := i) (by simp [hls, hi, hb])
        omega
      · rfl
    have hl1 : l1 = [] := by
      cases l1 with
      | nil => rfl
      | cons p l' =>
        obtain ⟨i, c⟩ := p
        obtain ⟨hcf, d, hd, heff⟩ := hhead
        subst hcf
        simp only [okI, Bool.and_eq_true] at hok1
        have hnot : i ∉ D1 := by simpa using hok1.1.1.2
        exact absurd (hinv1.sub i (hall i (by rw [← hp.len]; exact (List.getElem?_eq_some_iff.1 hd).1))) hnot
    subst hl1
    simp only [List.map_nil, steps] at hst1
    injection hst1 with _ q1 q2; subst q1; subst q2
    exact hQ G a w (hinv1.finish hp hall) hx (hn.trans hn1) hdf
  | succ fuel ih =>
    intro listed S D reads owe own e s G a w l hok hst hinv hls hlS hcnt hx hn hdf
    obtain ⟨l1, D1, reads1, own1, e1, s1, hok1, hhead, hst1, hinv1, hn1⟩ := hinv.ahead hp he hok hst
    have hnn := hn.trans hn1
    refine ⟨fun hr => ?_, fun i hi => ?_⟩
    · obtain ⟨r, hr'⟩ := hrank
      have hall : ∀ n i, r i = n → i < ops.size → i ∈ S := by
        intro n
        induction n using Nat.strongRecOn with
        | _ n ih2 =>
          intro i hri hi
          rw [← hlS i hi]
          cases hb : listed.getD i true
          · have hmem : i ∈ Region.ready .any ops listed := by
              rw [ready_iff]
              refine ⟨ops[i], by simp [hi], hb, fun ed hed hbd => ?_⟩
              obtain ⟨q1, q2⟩ := he.dir i ops[i] (by simp [hi]) ed hed hbd
              have := ih2 (r ed.on) (by rw [← hri]; exact hr' i (by rw [hp.len]; exact hi) ed.on (by rw [hp.len]; exact q2) q1) ed.on rfl q2
              rw [← hlS ed.on q2, getD_lt (by omega)] at this
              rw [getD_lt (by omega)]; exact this
            rw [hr] at hmem; cases hmem
          · rfl
      have hall' : ∀ i, i < ops.size → i ∈ S := fun i hi => hall _ i rfl hi
      have hl1 : l1 = [] := by
        cases l1 with
        | nil => rfl
        | cons p l' =>
          obtain ⟨i, c⟩ := p
          obtain ⟨hcf, d, hd, heff⟩ := hhead
          subst hcf
          simp only [okI, Bool.and_eq_true] at hok1
          have hnot : i ∉ D1 := by simpa using hok1.1.1.2
          exact absurd (hinv1.sub i (hall' i (by rw [← hp.len]; exact (List.getElem?_eq_some_iff.1 hd).1))) hnot
      subst hl1
      simp only [List.map_nil, steps] at hst1
      injection hst1 with _ q1 q2; subst q1; subst q2
      exact hQ G a w (hinv1.finish hp hall') hx hnn hdf
    · obtain ⟨o, h1, h2, h3⟩ := ready_iff.1 hi
      have hlt : i < ops.size := (Array.getElem?_eq_some_iff.1 h1).1
      have hiS : i ∉ S := by
        intro hq
        rw [← hlS i hlt, h2] at hq; cases hq
      have hA : ∀ j, j < ss.length → A i j = true → j ∈ S := by
        intro j hj ha
        obtain ⟨ed, k1, k2, k3⟩ := he.clo i o h1 j (by rw [← hp.len]; exact hj) ha
        have k4 := (he.dir i o h1 ed k1 k2).2
        have k5 := h3 ed k1 k2
        have k6 : ed.on ∈ S := by
          rw [← hlS ed.on k4, getD_lt (by omega)]
          rw [getD_lt (by omega)] at k5; exact k5
        rcases k3 with k3 | k3
        · rw [← k3]; exact k6
        · exact hinv.scl ed.on k6 j hj k3
      have hls' : (listed.setIfInBounds i true).size = ops.size := by simp [hls]
      have hlS' : ∀ j, j < ops.size → ((listed.setIfInBounds i true).getD j true = true ↔ j ∈ i :: S) := by
        intro j hj
        by_cases hij : i = j
        · subst hij; simp [Array.getD, hls, hj]
        · have : (listed.setIfInBounds i true).getD j true = listed.getD j true := by
            rw [getD_lt (by omega), getD_lt (by omega)]
            rw [Array.getElem_setIfInBounds, if_neg hij]
          rw [this, hlS j hj]
          simp only [List.mem_cons]
          exact ⟨.inr, fun h => h.resolve_left fun h => hij h.symm⟩
      have hcnt' : (listed.setIfInBounds i true).toList.count false ≤ fuel := by
        rw [getD_lt (by omega)] at h2
        have := count_set (l := listed.toList) (i := i) (by simp [hls, hlt, h2])
        rw [Array.toList_setIfInBounds]
        omega
      by_cases hiD : i ∈ D1
      · exact hinv1.run hp he h1 hiS hiD hA fun G' a' w' k1 k2 k3 k4 =>
          ih _ (i :: S) D1 reads1 [] own1 e1 s1 G' a' w' l1 hok1 hst1 k1 hls' hlS' hcnt' (hx.trans k2) ⟨hnn.nb, hnn.nt, fun b hb hg => ⟨k3 b hb (hnn.pend b hb hg).1, (hnn.pend b hb hg).2⟩, hnn.top⟩ (k4.trans hdf)
      · have hmem := okI_mem hok1 (by rw [hp.len]; exact hlt) hiD
        cases l1 with
        | nil => cases hmem
        | cons p l' =>
          obtain ⟨i0, c⟩ := p
          obtain ⟨hcf, d, hd, heff⟩ := hhead
          subst hcf
          have hok2 := hok1
          simp only [okI, Bool.and_eq_true, hd, heff, if_true] at hok2
          obtain ⟨⟨⟨q1, q2⟩, q3⟩, q4, q5⟩ := hok2
          have hi0 : i0 ∉ D1 := by simpa using q2
          have hilt : i0 < ss.length := (List.getElem?_eq_some_iff.1 hd).1
          have hii : i = i0 := by
            rcases List.mem_cons.1 hmem with h' | h'
            · injection h'
            · rw [List.all_eq_true] at q4
              have := q4 _ h'
              simp only [Bool.false_or] at this
              exact absurd (hinv1.sub i0 (hA i0 hilt this)) hi0
          subst hii
          simp only [List.map_cons] at hst1
          obtain ⟨y, e2, s2, m1, m2⟩ := steps_ok hst1
          have hit : itemD ss (i, false) = d := by simp [itemD, hd]
          rw [hit] at m1
          exact hinv1.eff hc hp he h1 hd heff hiD hA m1 fun G' a' w' k1 k2 k3 k4 =>
            ih _ (i :: S) (i :: D1) _ _ own1 e2 s2 G' a' w' l' q5 m2 k1 hls' hlS' hcnt' (hx.trans k2) (hnn.trans k3) (k4.trans hdf)
end
end Den

set_option autoImplicit false
set_option linter.unusedVariables false
set_option linter.unusedSimpArgs false
namespace Den
open Go Go.RowKit
section
variable {ρ : Vl} {w0 : World} {P : Program} {U : TypeId} {B : Nat}
theorem Ext.drew (G : Gh) (w : World) : Ext G w G w.drew := ⟨fun _ _ h => h, fun _ m h => ⟨m, h, rfl, rfl, rfl, rfl, Nat.le_refl _⟩, fun _ _ _ _ _ => rfl, fun _ _ _ h => h⟩
theorem Run.drew {nt : Nat} {G : Gh} {e : Env} {s : St} {a : Act} {w : World} (h : Run U ρ B w0 nt G e s a w) : Run U ρ B w0 nt G e s a w.drew :=
  ⟨h.sr.chg0 (Chg0.drew w), fun n => (h.fit n).ext (Ext.drew G w), h.size⟩
/-- a region -/
theorem region_ok {nt id : Nat} {heap draw : Bool} {ops : Array Oper} {ds : List DStep} {call : Nat → List AV → St → RC} {Q : Exit → Act → World → Prop} {e e' : Env} {s s' : St} {x : Ex} {G : Gh} {a : Act} {w : World} (hm : P.follows .mixedOrders = true) (hc : CallsOK P U ρ B w0 call)
    (hd : compReg P U nt heap ops draw = some ds) (h : steps call ds e s = .ok x e' s') (hr : Run U ρ B w0 nt G e s a w)
    (hQ : ∀ G' a' w', Run U ρ B w0 nt G' e' s' a' w' → Ext G w G' w' → Nxt G s G' s' → a'.defers = a.defers → Q .normal a' w') : (Code.region id ops draw).wp P Q a w := by
  unfold compReg at hd
  cases hts : toSteps P U nt heap ops ops.toList with
  | none => rw [hts] at hd; cases hd
  | some ss =>
    rw [hts] at hd
    cases draw with
    | false =>
      simp only [Option.some.injEq] at hd
      subst hd
      refine wp_region ?_
      have := reg_text (i0 := 0) (Q := Q) hc (l := ops.toList) (by simp) hts h hr hQ
      rw [List.range_eq_range']
      simpa using this
    | true =>
      simp only at hd
      split at hd
      · rename_i hok
        simp only [Option.some.injEq] at hd
        rw [Bool.and_eq_true] at hok
        obtain ⟨hA, hI⟩ := hok
        have hlen := toSteps_len hts
        have hp : Pair P U nt heap ops ss := ⟨by rw [hlen]; simp, fun i o ho => by
          obtain ⟨d, h1, h2⟩ := toSteps_get (i := i) (o := o) hts (by simpa using ho)
          exact ⟨d, h1, h2⟩⟩
        have he := okA_ok hp.len hA
        refine wp_region_any hm ?_
        show wpAny P .any ops Q ops.size (Array.replicate ops.size false) a w.drew
        have hr' := hr.drew
        have hds : ds = (asap ss.toArray (Region.before ops) (ops.size + 1) 0 []).map (itemD ss) := by
          rw [← hd]; rfl
        rw [hds] at h
        refine sim (e0 := e) (s0 := s) (G0 := G) (wi := w) (df := a.defers) hc hp he (okI_rank hI (fun _ => 0) 0 (by simp) (by simp)) (fun G' a' w' k1 k2 k3 k4 => hQ G' a' w' k1 k2 k3 k4) ops.size _ [] [] [] [] (fun _ => none) e s G a w.drew _ hI h ?_ (by simp) ?_ ?_ (Ext.drew G w) (Nxt.refl _ _) rfl
        · exact ⟨hr'.sr, hr'.size, Nat.le_refl _, by simp, by simp, by simp, by simp, fun _ _ => rfl, fun m t _ ⟨j, hj, _⟩ => absurd hj (by simp), fun m t ht _ => hr'.fit m t ht, by simp, by simp⟩
        · intro i hi
          simp [Array.getD, hi]
        · simp
      · cases hd
end
end Den

set_option autoImplicit false
set_option linter.unusedVariables false
set_option linter.unusedSimpArgs false
namespace Den
open Go Go.RowKit
section
variable {ρ : Vl} {w0 : World} {P : Program} {U : TypeId} {B : Nat} {G : Gh} {s : St} {w : World} {e : Env} {a : Act}
theorem slots_get : ∀ k, k < 16 → slots[k]? = slot k := by decide
theorem slots_drop (k : Nat) (h : k < 16) : ∃ d, slot k = some d ∧ slots.drop k = d :: slots.drop (k + 1) := by
  have hk := slots_get k h
  have hl : k < slots.length := h
  refine ⟨slots[k], by rw [← hk]; simp [hl], List.drop_eq_getElem_cons hl⟩
theorem mkEnv_ok : ∀ {l : List AV} {k : Nat} {e0 e : Env}, mkEnv l (slots.drop k) e0 = some e → ∀ n t, slot n = some t → e.get t = if k ≤ n ∧ n < k + l.length then l.getD (n - k) (.lst .tup []) else e0.get t
  | [], k, e0, e, h, n, t, ht => by
    simp only [mkEnv] at h
    injection h with h; subst h
    rw [if_neg (by simp)]
  | v :: l, k, e0, e, h, n, t, ht => by
    by_cases hk : k < 16
    · obtain ⟨d, hd, hdr⟩ := slots_drop k hk
      rw [hdr] at h
      simp only [mkEnv] at h
      rw [mkEnv_ok h n t ht]
      by_cases hn : n = k
      · subst hn
        rw [hd] at ht; injection ht with ht; subst ht
        rw [if_neg (by omega), if_pos (by simp)]
        simp [Env.get_put]
      · have hne : d ≠ t := by
          rintro rfl
          exact hn (slot_inj ht hd)
        rw [Env.get_put, if_neg hne]
        by_cases hc : k + 1 ≤ n ∧ n < k + 1 + l.length
        · rw [if_pos hc, if_pos (by simp; omega)]
          have : n - k = (n - (k + 1)) + 1 := by omega
          rw [this]; rfl
        · rw [if_neg hc, if_neg (by simp; omega)]
    · have : slots.drop k = [] := List.drop_eq_nil_of_le (by show 16 ≤ k; omega)
      rw [this] at h
      simp [mkEnv] at h
theorem empty_get (t : Slot) : Env.empty.get t = .lst .tup [] := by
  obtain ⟨i, j, k⟩ := t
  have h1 : Env.empty.at i = E2.empty := by cases i <;> rfl
  have h2 : E2.empty.at j = E1.empty := by cases j <;> rfl
  have h3 : E1.empty.at k = .lst .tup [] := by cases k <;> rfl
  simp only [Env.get, h1, h2, h3]
/-- a frame as a call begins -/
theorem enter_ok {args : List AV} {rargs : List Value} {nt : Nat} (hs : SR U ρ B w0 G s w) (ha : VRs ρ G w args rargs) (h : mkEnv args slots .empty = some e) :
    Run U ρ B w0 nt G e s { tmps := rargs.toArray ++ Array.replicate (nt - rargs.toArray.size) Go.undef, defers := [] } w := by
  refine ⟨hs, fun n t ht => ?_, by simp; omega⟩
  have := mkEnv_ok (k := 0) h n t ht
  rw [this]
  have hl := ha.length
  by_cases hn : n < args.length
  · rw [if_pos (by omega)]
    obtain ⟨v, h1, h2⟩ := ha.get (n := n) (x := args[n]) (by simp [hn])
    have e1 : args.getD (n - 0) (.lst .tup []) = args[n] := by simp [List.getD, hn]
    have e2 : (rargs.toArray ++ Array.replicate (nt - rargs.toArray.size) Go.undef).getD n Go.undef = v := by
      have hn' : n < rargs.length := by omega
      have : rargs[n] = v := by simpa [hn'] using h1
      simp [Array.getD, Array.getElem_append, hn', this]
      omega
    show VR ρ G w _ ((rargs.toArray ++ Array.replicate (nt - rargs.toArray.size) Go.undef).getD n Go.undef)
    rw [e1, e2]; exact h2
  · rw [if_neg (by omega), empty_get]
    have e2 : (rargs.toArray ++ Array.replicate (nt - rargs.toArray.size) Go.undef).getD n Go.undef = Go.undef := by
      have hn' : ¬ n < rargs.length := by omega
      rw [Array.getD_eq_getD_getElem?, Array.getElem?_append]
      simp [hn']
      by_cases hc : n - rargs.length < nt - rargs.length <;> simp [Array.getElem?_replicate, hc]
    show VR ρ G w _ ((rargs.toArray ++ Array.replicate (nt - rargs.toArray.size) Go.undef).getD n Go.undef)
    rw [e2]; exact .undef
/-! ### results -/
def resS (tmps : Array Value) : ResultVar → Sem Value
  | .tmp t => pure (tmps.getD t Go.undef)
  | .cell a t => do loadVar t (← asAddr (tmps.getD a Go.undef))
theorem res_ok {nt : Nat} {r : Res} {v : AV} {q : ResultVar} (h : Run U ρ B w0 nt G e s a w) (hc : cRes P q = some r) (hv : resV e s r = some v) : ∃ rv, (resS a.tmps q).run P w = .ok rv w ∧ VR ρ G w v rv := by
  cases q with
  | tmp t =>
    simp only [cRes, Option.map_eq_some_iff] at hc
    obtain ⟨sl, h1, rfl⟩ := hc
    simp only [resV, Option.some.injEq] at hv
    subst hv
    exact ⟨_, rfl, h.fit t sl h1⟩
  | cell p t =>
    simp only [cRes, Option.bind_eq_bind, Option.bind_eq_some_iff, Option.pure_def, Option.some.injEq] at hc
    obtain ⟨sl, h1, ag, h2, n, h3, rfl⟩ := hc
    simp only [resV] at hv
    have hf := h.fit p sl h1
    split at hv
    · rename_i b off hp
      rw [hp] at hf
      split at hv
      · rename_i cs hcs
        generalize hg : a.tmps.getD p Go.undef = rp at hf
        cases hf with
        | ptr _ _ rb hb =>
          obtain ⟨vs, et, size, k1, k2, k3, k4, k5, k6⟩ := cellsAt_ok h.sr hcs hb
          obtain ⟨rv, r1, r2⟩ := ld_ok (P := P) h2 h3 k1 k2 k3 hv
          refine ⟨rv, ?_, r2⟩
          simp only [resS, hg]
          simp only [Nat.zero_add] at r1
          simpa [asAddr] using r1
      · cases hv
    · cases hv
theorem ress_ok {nt : Nat} (h : Run U ρ B w0 nt G e s a w) : ∀ {l : List ResultVar} {rs : List Res} {vs : List AV}, cRess P l = some rs → resVs e s rs = some vs → ∃ rvs, (l.mapM (resS a.tmps)).run P w = .ok rvs w ∧ VRs ρ G w vs rvs
  | [], rs, vs, hc, hv => by
    simp only [cRess, Option.some.injEq] at hc; subst hc
    simp only [resVs, Option.some.injEq] at hv; subst hv
    exact ⟨[], rfl, .nil⟩
  | q :: l, rs, vs, hc, hv => by
    simp only [cRess] at hc
    obtain ⟨r, t, h1, h2, rfl⟩ := consO_some hc
    simp only [resVs] at hv
    split at hv
    · rename_i v hr
      split at hv
      · rename_i vs' hrs
        injection hv with hv; subst hv
        obtain ⟨rv, k1, k2⟩ := res_ok h h1 hr
        obtain ⟨rvs, k3, k4⟩ := ress_ok h h2 hrs
        exact ⟨rv :: rvs, by simp [List.mapM_cons, k1, k3], .cons _ _ _ _ k2 k4⟩
      · cases hv
    · cases hv
theorem results_eq (fn : Func) (tmps : Array Value) : results fn tmps = (do
    let vs ← fn.results.mapM (resS tmps)
    pure (if h : vs.size = 1 then vs[0] else .tuple vs) : Sem Value) := by
  unfold results
  congr 1
theorem results_ok {nt : Nat} {fn : Func} {rs : List Res} {vs : List AV} (h : Run U ρ B w0 nt G e s a w) (hc : cRess P fn.results.toList = some rs) (hv : resVs e s rs = some vs) :
    ∃ rv, (results fn a.tmps).run P w = .ok rv w ∧ VR ρ G w (tupV vs) rv := by
  obtain ⟨rvs, h1, h2⟩ := ress_ok h hc hv
  have hl := h2.length
  refine ⟨(if h : rvs.toArray.size = 1 then rvs.toArray[0] else .tuple rvs.toArray), ?_, ?_⟩
  · rw [results_eq, Array.mapM_eq_mapM_toList]
    simp [h1]
  · cases h2 with
    | nil => exact .tup [] [] .nil
    | cons x v xs vs' k1 k2 =>
      cases k2 with
      | nil => exact k1
      | cons y u ys us k3 k4 => exact .tup _ _ (.cons _ _ _ _ k1 (.cons _ _ _ _ k3 k4))
end
end Den

set_option autoImplicit false
set_option linter.unusedVariables false
set_option linter.unusedSimpArgs false
namespace Den
open Go Go.RowKit
def exOf : Ex → Exit
  | .normal => .normal
  | .exit i => .exit i
  | .ret => .ret
/-- the table is the program's -/
def TblOK (P : Program) (U : TypeId) (tbl : Nat → Option Fn) : Prop := ∀ f fn, tbl f = some fn → ∃ func heap, P.funcs[f]? = some func ∧ compF P U heap func = some fn
def natC (nat : Nat → Option (List AV → St → RC)) : Call := fun f args s => match nat f with | some g => g args s | none => .no
section
variable {ρ : Vl} {w0 : World} {P : Program} {U : TypeId} {B : Nat} {tbl : Nat → Option Fn} {nat : Nat → Option (List AV → St → RC)} {C : Call}
theorem callFunc_ok {f : Nat} {fn : Func} {b : Code} {args : Array Value} (h : P.funcs[f]? = some fn) (hn : fn.name ≠ "runtime.NumGoroutine") (hb : fn.body = some b) (w : World) : (callFunc f args).run P w = .ok (.enter f args) w := by
  unfold callFunc
  rw [Sem.run_bind]
  show (Result.ok P w).andThen _ = _
  simp [h, hn, hb]
theorem noGoto_ex {Q : Exit → Act → World → Prop} {x : Ex} {a : Act} {w : World} (h : Q (exOf x) a w) : Exit.noGoto Q (exOf x) a w := by cases x <;> exact h
theorem steps_normal : ∀ {l : List DStep} {call : Call} {e e' : Env} {s s' : St} {x : Ex}, steps call l e s = .ok x e' s' → x = .normal
  | [], call, e, e', s, s', x, h => by simp only [steps] at h; injection h with h; exact h.symm
  | st :: l, call, e, e', s, s', x, h => by
    obtain ⟨y, e1, s1, h1, h2⟩ := steps_ok h
    exact steps_normal h2
/-- code -/
theorem exC_ok (hm : P.follows .mixedOrders = true) (hC : CallsOK P U ρ B w0 C) {n nt : Nat} {heap : Bool} : ∀ (c : Code) (dc : DC) (e : Env) (s : St) (x : Ex) (e' : Env) (s' : St) (G : Gh) (a : Act) (w : World) (Q : Exit → Act → World → Prop), compC P U nt heap c = some dc → exC C n dc e s = .ok x e' s' → Run U ρ B w0 nt G e s a w →
    (∀ G' a' w', Run U ρ B w0 nt G' e' s' a' w' → Ext G w G' w' → Nxt G s G' s' → a'.defers = a.defers → Q (exOf x) a' w') → c.wp P Q a w := by
  intro c
  induction c with
  | skip =>
    intro dc e s x e' s' G a w Q hc h hr hQ
    simp only [compC, Option.some.injEq] at hc; subst hc
    simp only [exC] at h
    injection h with h0 h1 h2; subst h0; subst h1; subst h2
    exact wp_skip (hQ G a w hr (Ext.refl _ _) (Nxt.refl _ _) rfl)
  | label l =>
    intro dc e s x e' s' G a w Q hc h hr hQ
    simp only [compC, Option.some.injEq] at hc; subst hc
    simp only [exC] at h
    injection h with h0 h1 h2; subst h0; subst h1; subst h2
    exact wp_label (hQ G a w hr (Ext.refl _ _) (Nxt.refl _ _) rfl)
  | seq c1 c2 i1 i2 =>
    intro dc e s x e' s' G a w Q hc h hr hQ
    simp only [compC] at hc
    split at hc
    · rename_i d1 d2 hd1 hd2
      injection hc with hc; subst hc
      simp only [exC] at h
      refine wp_seq ?_
      split at h
      · rename_i e1 s1 h1
        refine i1 d1 e s .normal e1 s1 G a w _ hd1 h1 hr fun G' a' w' k1 k2 k3 k4 => ?_
        exact i2 d2 e1 s1 x e' s' G' a' w' Q hd2 h k1 fun G'' a'' w'' m1 m2 m3 m4 => hQ G'' a'' w'' m1 (k2.trans m2) (k3.trans m3) (m4.trans k4)
      · rename_i hne
        refine i1 d1 e s x e' s' G a w _ hd1 h hr fun G' a' w' k1 k2 k3 k4 => ?_
        cases x with
        | normal => exact absurd h (hne _ _)
        | exit i => exact hQ G' a' w' k1 k2 k3 k4
        | ret => exact hQ G' a' w' k1 k2 k3 k4
    · cases hc
  | cond c0 c1 c2 i1 i2 =>
    intro dc e s x e' s' G a w Q hc h hr hQ
    simp only [compC] at hc
    split at hc
    · rename_i o d1 d2 ho hd1 hd2
      injection hc with hc; subst hc
      simp only [exC] at h
      have hv := cOpd_ok (ρ := ρ) (G := G) (w := w) (e := e) (a := a) ho fun n _ => hr.fit n
      split at h
      · rename_i hb
        rw [hb] at hv
        exact wp_cond_true (bool_of hv rfl) (i1 d1 e s x e' s' G a w Q hd1 h hr hQ)
      · rename_i hb
        rw [hb] at hv
        exact wp_cond_false (bool_of hv rfl) (i2 d2 e s x e' s' G a w Q hd2 h hr hQ)
      · cases h
    · cases hc
  | block id c ic =>
    intro dc e s x e' s' G a w Q hc h hr hQ
    simp only [compC] at hc
    split at hc
    · rename_i d hd
      injection hc with hc; subst hc
      simp only [exC] at h
      refine wp_block ?_
      split at h
      · rename_i i e1 s1 h1
        refine ic d e s (.exit i) e1 s1 G a w _ hd h1 hr fun G' a' w' k1 k2 k3 k4 => ?_
        show (if i = id then Q .normal a' w' else Q (.exit i) a' w')
        split at h
        · rename_i hi
          injection h with h0 h1 h2; subst h0; subst h1; subst h2
          rw [if_pos (Nat.eq_of_beq_eq_true hi)]
          exact hQ G' a' w' k1 k2 k3 k4
        · rename_i hi
          injection h with h0 h1 h2; subst h0; subst h1; subst h2
          rw [if_neg (fun hq => by subst hq; simp at hi)]
          exact hQ G' a' w' k1 k2 k3 k4
      · rename_i hne
        refine ic d e s x e' s' G a w _ hd h hr fun G' a' w' k1 k2 k3 k4 => ?_
        cases x with
        | normal => exact hQ G' a' w' k1 k2 k3 k4
        | exit i => exact absurd h (hne _ _ _)
        | ret => exact hQ G' a' w' k1 k2 k3 k4
    · cases hc
  | loop c ic =>
    intro dc e s x e' s' G a w Q hc h hr hQ
    simp only [compC] at hc
    split at hc
    · rename_i d hd
      injection hc with hc; subst hc
      simp only [exC] at h
      have rounds : ∀ (m : Nat) (e : Env) (s : St) (G : Gh) (a : Act) (w : World), loopN (exC C n d) m e s = .ok x e' s' → Run U ρ B w0 nt G e s a w → (∀ G' a' w', Run U ρ B w0 nt G' e' s' a' w' → Ext G w G' w' → Nxt G s G' s' → a'.defers = a.defers → Q (exOf x) a' w') → Code.rounds P c Q m a w := by
        intro m
        induction m with
        | zero => intro e s G a w h; cases h
        | succ m ih =>
          intro e s G a w h hr hQ
          simp only [loopN] at h
          rw [rounds_succ]
          split at h
          · rename_i e1 s1 h1
            refine ic d e s .normal e1 s1 G a w _ hd h1 hr fun G' a' w' k1 k2 k3 k4 => ?_
            exact ih e1 s1 G' a' w' h k1 fun G'' a'' w'' m1 m2 m3 m4 => hQ G'' a'' w'' m1 (k2.trans m2) (k3.trans m3) (m4.trans k4)
          · rename_i hne
            refine ic d e s x e' s' G a w _ hd h hr fun G' a' w' k1 k2 k3 k4 => ?_
            cases x with
            | normal => exact absurd h (hne _ _)
            | exit i => exact hQ G' a' w' k1 k2 k3 k4
            | ret => exact hQ G' a' w' k1 k2 k3 k4
      exact wp_loop_rounds n (rounds n e s G a w h hr hQ)
    · cases hc
  | scope c ic =>
    intro dc e s x e' s' G a w Q hc h hr hQ
    simp only [compC] at hc
    exact wp_scope_straight (ic dc e s x e' s' G a w _ hc h hr fun G' a' w' k1 k2 k3 k4 => noGoto_ex (hQ G' a' w' k1 k2 k3 k4))
  | exit i =>
    intro dc e s x e' s' G a w Q hc h hr hQ
    simp only [compC, Option.some.injEq] at hc; subst hc
    simp only [exC] at h
    injection h with h0 h1 h2; subst h0; subst h1; subst h2
    exact wp_exit (hQ G a w hr (Ext.refl _ _) (Nxt.refl _ _) rfl)
  | ret =>
    intro dc e s x e' s' G a w Q hc h hr hQ
    simp only [compC, Option.some.injEq] at hc; subst hc
    simp only [exC] at h
    injection h with h0 h1 h2; subst h0; subst h1; subst h2
    exact wp_ret (hQ G a w hr (Ext.refl _ _) (Nxt.refl _ _) rfl)
  | region id ops draw =>
    intro dc e s x e' s' G a w Q hc h hr hQ
    simp only [compC] at hc
    split at hc
    · rename_i l hl
      injection hc with hc; subst hc
      simp only [exC] at h
      have hx := steps_normal h
      subst hx
      exact region_ok hm hC hl h hr hQ
    · cases hc
  | _ =>
    intro dc e s x e' s' G a w Q hc
    simp only [compC] at hc
    cases hc
/-- a function's body -/
theorem bodyC_ok (hm : P.follows .mixedOrders = true) (hC : CallsOK P U ρ B w0 C) {n f : Nat} {fn : Fn} {func : Func} {heap : Bool} (h1 : P.funcs[f]? = some func) (h2 : compF P U heap func = some fn) {args : List AV} {s s' : St} {v : AV} {G : Gh} {w : World} {rargs : List Value}
    (h : bodyC C n fn args s = .ok v s') (hs : SR U ρ B w0 G s w) (ha : VRs ρ G w args rargs) : (∀ w1, (callFunc f rargs.toArray).run P w1 = .ok (.enter f rargs.toArray) w1) ∧
    Calls P f rargs.toArray w (fun en w' => ∃ rv G', en = .returned rv ∧ SR U ρ B w0 G' s' w' ∧ Ext G w G' w' ∧ Nxt G s G' s' ∧ VR ρ G' w' v rv) := by
  unfold bodyC at h
  split at h
  · rename_i e0 he0
    cases hrec : exC C n fn.body e0 s with
    | no => rw [hrec] at h; cases h
    | ok x e1 s1 =>
      rw [hrec] at h
      simp only [endC] at h
      unfold compF at h2
      split at h2
      · cases h2
      · rename_i hname
        split at h2
        · cases h2
        · rename_i b hb
          split at h2
          · rename_i body res hbody hres
            injection h2 with h2; subst h2
            refine ⟨fun w1 => callFunc_ok h1 hname hb w1, calls_of_wp h1 hb ?_⟩
            refine exC_ok hm hC b body e0 s x e1 s1 G _ w _ hbody hrec (enter_ok hs ha he0) fun G' a' w' k1 k2 k3 k4 => ?_
            have fin : ∀ vs, resVs e1 s1 res = some vs → RC.ok (tupV vs) s1 = .ok v s' → a'.defers = [] ∧ ∃ rv, (results func a'.tmps).run P w' = .ok rv w' ∧ ∃ rv' G', Ending.returned rv = Ending.returned rv' ∧ SR U ρ B w0 G' s' w' ∧ Ext G w G' w' ∧ Nxt G s G' s' ∧ VR ρ G' w' v rv' := by
              intro vs hvs heq
              injection heq with q1 q2
              subst q1; subst q2
              obtain ⟨rv, r1, r2⟩ := results_ok (P := P) (fn := func) k1 hres hvs
              exact ⟨k4, rv, r1, rv, G', rfl, k1.sr, k2, k3, r2⟩
            cases x with
            | exit i => cases h
            | normal =>
              simp only at h
              split at h
              · rename_i vs hvs; exact fin vs hvs h
              · cases h
            | ret =>
              simp only at h
              split at h
              · rename_i vs hvs; exact fin vs hvs h
              · cases h
          · cases h2
  · cases h
/-- a call of the abstract machine speaks of the model's -/
theorem callD_ok (hm : P.follows .mixedOrders = true) (ht : TblOK P U tbl) (hn : CallsOK P U ρ B w0 (natC nat)) (n : Nat) : ∀ d, CallsOK P U ρ B w0 (callD tbl nat n d)
  | 0 => fun f args s v s' G w rargs h => by cases h
  | d + 1 => by
    intro f args s v s' G w rargs h hs ha
    simp only [callD] at h
    split at h
    · rename_i g hg
      exact hn f args s v s' G w rargs (by unfold natC; rw [hg]; exact h) hs ha
    · split at h
      · rename_i fn hfn
        obtain ⟨func, heap, h1, h2⟩ := ht f fn hfn
        exact bodyC_ok hm (callD_ok hm ht hn n d) h1 h2 h hs ha
      · cases h
/-- the state as all begins -/
theorem SR.start (w : World) : SR U ρ w.heap.size w ⟨fun _ => none, fun _ => none⟩ st0 w where
  blk b o rb h := by simp [st0, Tr.get_leaf] at h
  inj b b' o o' rb h := by simp [st0, Tr.get_leaf] at h
  new b _ := ⟨rfl, Tr.get_leaf b⟩
  newt t _ := Tr.get_leaf t
  even := rfl
  apart b o rb h := by simp [st0, Tr.get_leaf] at h
  im rb m h := by cases h
  lt b rb h := by cases h
  below := Below.refl _ _
  le := Nat.le_refl _
end
end Den
