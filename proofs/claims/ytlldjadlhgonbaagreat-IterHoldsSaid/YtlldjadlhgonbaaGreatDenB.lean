/- The abstract machine is sound: reads, makings, effects. -/
import Derived.Test.YtlldjadlhgonbaaGreatDenA
import Derived.MapKept
import Derived.Laws.BytesString
import Derived.Laws.IdiomStrings
import Derived.Laws.MakeOwn
import Derived.Laws.AppendOwn
import Derived.Great.BuildSlice
set_option linter.unusedVariables false
set_option linter.unusedSimpArgs false
set_option autoImplicit false
set_option linter.unusedVariables false
set_option linter.unusedSimpArgs false
namespace Den
open Go Go.RowKit
section
variable {ρ : Vl} {G : Gh} {w : World} {P : Program} {U : TypeId} {e : Env} {a : Act}
/-! ### a key may be asked for -/
def CKf (P : Program) (em : Bool) (d : Nat) (cs : Array Value) : List Field → Sem Unit
  | [] => pure ()
  | f :: fs => do
    if f.name ≠ "_" then Instr.checkKey em d f.type (← part f.type cs f.offset)
    CKf P em d cs fs
def KC (P : Program) (d : Nat) (t : TypeId) (ks : List CK) : Prop :=
  ∀ (us : List Value) (off : Nat), off + ks.length ≤ us.length → P.cellsOf t = ks.length →
    ∀ w', ∃ u, (part t us.toArray off).run P w' = .ok u w' ∧ ∀ em D, d ≤ D → (Instr.checkKey em D t u).run P w' = .ok () w'
theorem checkFields_ok {d : Nat} (rec : TypeId → Option (List CK)) (hrec : ∀ t ks, rec t = some ks → KC P d t ks) : ∀ (fs : List Field) (off : Nat) (ks : List CK), kindsGo P rec fs off = some ks →
    ∀ (us : List Value), off + ks.length ≤ us.length → ∀ w' em D, d ≤ D → (CKf P em D us.toArray fs).run P w' = .ok () w'
  | [], off, ks, h, us, hl, w', em, D, hD => by simp [CKf]
  | f :: fs, off, ks, h, us, hl, w', em, D, hD => by
    simp only [kindsGo] at h
    split at h
    · cases h
    rename_i k1 hk1
    split at h
    · cases h
    rename_i hc
    simp only [not_or, Decidable.not_not] at hc
    obtain ⟨hname, hoff, hcells⟩ := hc
    split at h
    · rename_i k2 hk2
      injection h with h; subst h
      simp only [List.length_append] at hl
      obtain ⟨u, hp, hq⟩ := hrec f.type k1 hk1 us off (by omega) hcells w'
      have ih := checkFields_ok rec hrec fs (off + k1.length) k2 hk2 us (by omega) w' em D hD
      simp [CKf, hname, hoff, hp, hq em D hD, ih]
    · cases h
theorem checkStruct {t : TypeId} {fs : Array Field} (hu : P.underlying t = some (.struct fs)) (em : Bool) (D : Nat) (cs : Array Value) (w' : World) : (Instr.checkKey em (D + 1) t (.agg cs)).run P w' = (CKf P em D cs fs.toList).run P w' := by
  unfold Instr.checkKey
  simp only [Sem.run_bind, run_underlying hu, Result.andThen_ok]
  rw [← Array.forIn_toList]
  generalize fs.toList = l
  clear hu
  induction l generalizing w' with
  | nil => simp [CKf]
  | cons f l ih =>
    simp only [List.forIn_cons, CKf]
    by_cases hn : f.name = "_"
    · have := ih w'
      simpa [hn] using this
    · cases hr : (part f.type cs f.offset).run P w' with
      | halt h w1 => simp [hn, hr]
      | ok v w1 =>
        cases hq : (Instr.checkKey em D f.type v).run P w1 with
        | halt h w2 => simp [hn, hr, hq]
        | ok v2 w2 =>
          have := ih w2
          simpa [hn, hr, hq] using this
theorem kindsC_ok : ∀ (d : Nat) (t : TypeId) (ks : List CK), kinds P d t = some ks → KC P d t ks
  | 0, t, ks, h => by simp [kinds] at h
  | d + 1, t, ks, h => by
    intro us off hl hc w'
    simp only [kinds] at h
    have base : ∀ (desc : TypeDesc) (c : CK), P.underlying t = some desc → isAggD desc = false → (∀ ms, desc ≠ .interface ms) → ks = [c] → ∃ u, (part t us.toArray off).run P w' = .ok u w' ∧ ∀ em D, d + 1 ≤ D → (Instr.checkKey em D t u).run P w' = .ok () w' := by
      intro desc c hu hd hi hk
      subst hk
      have hag : tyAg P t = some false := by simp [tyAg, hu, hd]
      have hlt : off < us.length := by simp at hl; omega
      refine ⟨us[off], run_part_one hag (by simp [hlt]) w', fun em D hD => ?_⟩
      obtain ⟨D, rfl⟩ : ∃ D', D = D' + 1 := ⟨D - 1, by omega⟩
      unfold Instr.checkKey
      simp only [Sem.run_bind, run_underlying hu, Result.andThen_ok]
      generalize us[off] = v
      cases desc <;> first | (simp [isAggD] at hd; done) | exact absurd rfl (hi _) | (cases v <;> simp)
    split at h
    · rename_i k hu
      injection h with h
      exact base _ _ hu rfl (by simp) h.symm
    · rename_i hu
      injection h with h
      exact base _ _ hu rfl (by simp) h.symm
    · rename_i hu
      injection h with h
      exact base _ _ hu rfl (by simp) h.symm
    · rename_i fs hu
      split at h
      · cases h
      have hag : tyAg P t = some true := by simp [tyAg, hu, isAggD]
      obtain ⟨i, hi⟩ := ty_info hu
      have hn : tySz P t = some ks.length := by
        simp [Program.cellsOf, hi] at hc
        simp [tySz, hi, hc]
      refine ⟨_, run_part_agg hag hn _ _ w', fun em D hD => ?_⟩
      obtain ⟨D, rfl⟩ : ∃ D', D = D' + 1 := ⟨D - 1, by omega⟩
      rw [checkStruct hu, extract_list]
      exact checkFields_ok (kinds P d) (fun t ks h => kindsC_ok d t ks h) fs.toList 0 ks h _ (by simp; omega) w' em D (by omega)
    · cases h
theorem keyTy_some {t : TypeId} {kt : KT} (h : keyTy P t = some kt) : kinds P 6 t = some kt.ks ∧ tyAg P t = some kt.ag := by
  simp only [keyTy, Option.bind_eq_bind, Option.bind_eq_some_iff, Option.pure_def, Option.some.injEq] at h
  obtain ⟨ks, h1, ag, h2, rfl⟩ := h
  exact ⟨h1, h2⟩
theorem checkKey_ok {t : TypeId} {kt : KT} {k : AV} {rk : Value} (ht : keyTy P t = some kt) (hk : VR ρ G w k rk) (h : keyOk kt k = true) (em : Bool) (w' : World) : (Instr.checkKey em 10000 t rk).run P w' = .ok () w' := by
  obtain ⟨h1, h2⟩ := keyTy_some ht
  simp only [tyAg, Option.map_eq_some_iff] at h2
  obtain ⟨desc, hu, hd⟩ := h2
  simp only [kinds, hu] at h1
  unfold keyOk at h
  cases hag : kt.ag
  · rw [hag] at hd
    show (Instr.checkKey em (9999 + 1) t rk).run P w' = .ok () w'
    unfold Instr.checkKey
    simp only [Sem.run_bind, run_underlying hu, Result.andThen_ok]
    cases desc <;> first | (simp [isAggD] at hd; done) | (simp at h1; done) | (cases rk <;> simp)
  · rw [hag] at h hd
    simp only at h
    split at h
    · rename_i cs
      rw [len_eq, len_eq] at h
      have hlen := Nat.eq_of_beq_eq_true h
      cases hk with
      | agg _ us hus h1' =>
        cases desc <;> first | (cases hd; done) | skip
        · cases h1
        · rename_i fs
          simp only at h1
          split at h1
          · cases h1
          have := hus.length
          show (Instr.checkKey em (9999 + 1) t (.agg us.toArray)).run P w' = .ok () w'
          rw [checkStruct hu]
          exact checkFields_ok (kinds P 5) (fun t ks h => kindsC_ok 5 t ks h) fs.toList 0 _ h1 us (by omega) w' em 9999 (by omega)
    · cases h
end
end Den

set_option autoImplicit false
set_option linter.unusedVariables false
set_option linter.unusedSimpArgs false
namespace Den
open Go Go.RowKit
def baseV : Value → Bool | .int _ _ => true | .string _ => true | .bool _ => true | _ => false
def KeyV (u : Value) : Prop := baseV u = true ∨ ∃ vs : List Value, u = .agg vs.toArray ∧ ∀ x ∈ vs, baseV x = true
theorem sameBits_base {n : Nat} {u : Value} (h : baseV u = true) : Instr.sameBits n u u = true := by
  cases u <;> simp [baseV] at h <;> cases n <;> simp [Instr.sameBits]
  all_goals exact (Go.MapKept.bytes_beq _ _).2 rfl
theorem zip_self {f : Value → Value → Bool} : ∀ (vs : List Value), (∀ x ∈ vs, f x x = true) → (vs.zip vs).all (fun p => f p.1 p.2) = true
  | [], _ => rfl
  | v :: vs, h => by
    simp only [List.zip_cons_cons, List.all_cons, h v (by simp), Bool.true_and]
    exact zip_self vs fun x hx => h x (by simp [hx])
theorem sameBits_key {u : Value} (h : KeyV u) : Instr.sameBits 10000 u u = true := by
  rcases h with h | ⟨vs, rfl, h⟩
  · exact sameBits_base h
  · show Instr.sameBits (9999 + 1) _ _ = true
    unfold Instr.sameBits
    simp only [beq_self_eq_true, Bool.true_and]
    exact zip_self (f := fun x y => Instr.sameBits 9999 x y) vs fun x hx => sameBits_base (h x hx)
section
variable {ρ : Vl} {G : Gh} {w : World} {P : Program} {U : TypeId} {e : Env} {a : Act}
theorem run_stays {u : Value} (h : KeyV u) (w' : World) : (Instr.keyThatStays u u).run P w' = .ok u w' := by
  simp [Instr.keyThatStays, sameBits_key h]
theorem eqK1_true {c : CK} {x y : AV} {u v : Value} (hx : VR ρ G w x u) (hy : VR ρ G w y v) (h : eqK1 c x y = some true) : u = v ∧ baseV u = true := by
  rcases eqK1_ok hx hy h with ⟨k, a, b, _, rfl, rfl, hb⟩ | ⟨a, b, _, rfl, rfl, hb⟩ | ⟨a, b, _, rfl, rfl, hb⟩
  · have : a = b := by simpa using hb
    subst this; exact ⟨rfl, rfl⟩
  · have := (Go.MapKept.bytes_beq a b).1 hb
    subst this; exact ⟨rfl, rfl⟩
  · have : a = b := by simpa using hb
    subst this; exact ⟨rfl, rfl⟩
theorem eqK_true : ∀ {ks : List CK} {as bs : List AV} {us vs : List Value}, VRs ρ G w as us → VRs ρ G w bs vs → eqK ks as bs = some true → us = vs ∧ ∀ x ∈ us, baseV x = true
  | [], [], [], _, _, .nil, .nil, _ => ⟨rfl, fun x hx => by cases hx⟩
  | [], a :: as, _, _, _, _, _, h => by simp [eqK] at h
  | [], [], b :: bs, _, _, _, _, h => by simp [eqK] at h
  | c :: ks, [], _, _, _, _, _, h => by simp [eqK] at h
  | c :: ks, a :: as, [], _, _, _, _, h => by simp [eqK] at h
  | c :: ks, a :: as, b :: bs, _, _, .cons _ u _ us hu hus, .cons _ v _ vs hv hvs, h => by
    simp only [eqK] at h
    split at h
    · rename_i h1
      obtain ⟨e1, e2⟩ := eqK1_true hu hv h1
      obtain ⟨e3, e4⟩ := eqK_true hus hvs h
      subst e1; subst e3
      refine ⟨rfl, fun x hx => ?_⟩
      rcases List.mem_cons.1 hx with rfl | hx
      · exact e2
      · exact e4 x hx
    · cases h
    · cases h
theorem eqK_full {ks : List CK} {as bs : List AV} {b : Bool} (h : eqK ks as bs = some b) : eqK ks ((as.drop 0).take ks.length) ((bs.drop 0).take ks.length) = some b := by
  simp only [List.drop_zero]
  have := eqK_append ks [] as bs
  rw [List.append_nil, h] at this
  cases hh : eqK ks (as.take ks.length) (bs.take ks.length) with
  | none => simp [hh] at this
  | some q =>
    cases q <;> simp [hh] at this
    · rw [this]
    · cases b
      · exfalso
        generalize as.drop ks.length = aa at this
        generalize bs.drop ks.length = bb at this
        cases aa <;> cases bb <;> simp [eqK] at this
      · rfl
theorem keyEq_ok {t : TypeId} {kt : KT} {x y : AV} {u v : Value} {b : Bool} (ht : keyTy P t = some kt) (hx : VR ρ G w x u) (hy : VR ρ G w y v) (h : keyEq kt x y = some b) (w' : World) :
    (Op.equal t u v).run P w' = .ok b w' ∧ (b = true → u = v ∧ KeyV u) ∧ (∀ d, P.underlying t = some d → Instr.sameNow d u v = if kt.ag then none else some b) := by
  obtain ⟨h1, h2⟩ := keyTy_some ht
  simp only [tyAg, Option.map_eq_some_iff] at h2
  obtain ⟨desc, hu, hd⟩ := h2
  simp only [kinds, hu] at h1
  unfold keyEq at h
  cases hag : kt.ag
  · rw [hag] at hd h
    simp only at h
    split at h
    · rename_i c hks
      rw [hks] at h1
      have hr := eqK1_ok hx hy h
      have ht' : b = true → u = v ∧ KeyV u := by
        rintro rfl
        obtain ⟨e1, e2⟩ := eqK1_true hx hy h
        exact ⟨e1, .inl e2⟩
      have key : (∀ d, (Op.equalIn (d + 1) t u v).run P w' = .ok b w') ∧ Instr.sameNow desc u v = some b := by
        cases desc <;> first | (cases hd; done) | (simp at h1; done) | skip
        · simp at h1; subst h1
          rcases hr with ⟨k, a, b, hc, rfl, rfl, hb⟩ | ⟨a, b, hc, rfl, rfl, hb⟩ | ⟨a, b, hc, rfl, rfl, hb⟩ <;> first | (cases hc; done) | skip
          exact ⟨fun d => by simp [Op.equalIn, run_underlying hu, hb], by simp [Instr.sameNow, hb]⟩
        · simp at h1; subst h1
          rcases hr with ⟨k, a, b, hc, rfl, rfl, hb⟩ | ⟨a, b, hc, rfl, rfl, hb⟩ | ⟨a, b, hc, rfl, rfl, hb⟩ <;> first | (cases hc; done) | skip
          exact ⟨fun d => by simp [Op.equalIn, run_underlying hu, hb], by simp [Instr.sameNow, hb]⟩
        · simp at h1; subst h1
          rcases hr with ⟨k, a, b, hc, rfl, rfl, hb⟩ | ⟨a, b, hc, rfl, rfl, hb⟩ | ⟨a, b, hc, rfl, rfl, hb⟩ <;> first | (cases hc; done) | skip
          exact ⟨fun d => by simp [Op.equalIn, run_underlying hu, hb], by simp [Instr.sameNow, hb]⟩
      refine ⟨key.1 9999, ht', fun d hd' => ?_⟩
      rw [hu] at hd'; injection hd' with hd'; subst hd'
      simpa using key.2
    · cases h
  · rw [hag] at hd h
    simp only at h
    split at h
    · rename_i as bs
      cases hx with
      | agg _ us hus o1 =>
        cases hy with
        | agg _ vs hvs o2 =>
          cases desc <;> first | (cases hd; done) | skip
          · cases h1
          · rename_i fs
            simp only at h1
            split at h1
            · cases h1
            rename_i hst
            have hst' : P.stoodInHeld t = false := by simpa using hst
            have hf : P.fieldsOf t = fs := by simp [Program.fieldsOf, hu]
            refine ⟨?_, ?_, ?_⟩
            · show (Op.equalIn (9999 + 1) t (.agg us.toArray) (.agg vs.toArray)).run P w' = .ok b w'
              rw [run_equalIn_struct w' 9999 t _ _ (by rw [hf]; exact hu) hst', hf]
              exact eqFields_ok (ρ := ρ) (G := G) (w := w) (d := 5) (kinds P 5) (fun t ks h => kinds_ok 5 t ks h) fs.toList 0 _ h1 as bs us vs b hus hvs (eqK_full h) w' 9999 (by omega)
            · rintro rfl
              obtain ⟨e1, e2⟩ := eqK_true hus hvs h
              subst e1
              exact ⟨rfl, .inr ⟨us, rfl, e2⟩⟩
            · intro d hd'
              rw [hu] at hd'; injection hd' with hd'; subst hd'
              rfl
    · cases h
theorem ER.get : ∀ {es : List (AV × AV × Nat)} {rs : List MapEntry} {i : Nat} {k v : AV} {n : Nat}, ER ρ G w es rs → es[i]? = some (k, v, n) → ∃ r, rs[i]? = some r ∧ VR ρ G w k r.key ∧ VR ρ G w v r.val ∧ r.born = n
  | _, _, 0, k, v, n, .cons k' v' n' rk rv es rs hk hv t, h => by
    simp at h
    obtain ⟨rfl, rfl, rfl⟩ := h
    exact ⟨{ key := rk, val := rv, born := n' }, rfl, hk, hv, rfl⟩
  | _, _, i + 1, k, v, n, .cons k' v' n' rk rv es rs hk hv t, h => by
    simp at h
    obtain ⟨r, h1, h2⟩ := t.get h
    exact ⟨r, by simpa using h1, h2⟩
  | _, _, i, k, v, n, .nil, h => by simp at h
/-- what was found -/
def Fnd (ρ : Vl) (G : Gh) (w : World) (rk : Value) (es : List (AV × AV × Nat)) (rs : List MapEntry) (i0 : Nat) : Option (Nat × AV × Nat) → Option (Nat × Value) → Prop
  | none, r => r = none
  | some (i, v, n), r => ∃ j k ent, i = i0 + j ∧ es[j]? = some (k, v, n) ∧ rs[j]? = some ent ∧ r = some (i, ent.val) ∧ VR ρ G w v ent.val ∧ ent.born = n ∧ ent.key = rk ∧ KeyV rk
theorem Fnd.cons {rk : Value} {es : List (AV × AV × Nat)} {rs : List MapEntry} {i0 : Nat} {x : AV × AV × Nat} {y : MapEntry} {r : Option (Nat × AV × Nat)} {r' : Option (Nat × Value)} (h : Fnd ρ G w rk es rs (i0 + 1) r r') : Fnd ρ G w rk (x :: es) (y :: rs) i0 r r' := by
  cases r with
  | none => exact h
  | some p =>
    obtain ⟨i, v, n⟩ := p
    obtain ⟨j, k, ent, h1, h2, h3, h4⟩ := h
    exact ⟨j + 1, k, ent, by omega, by simpa using h2, by simpa using h3, h4⟩
theorem findE_ok {t : TypeId} {kt : KT} {k : AV} {rk : Value} (ht : keyTy P t = some kt) (hk : VR ρ G w k rk) {d : TypeDesc} (hd : P.underlying t = some d) : ∀ {es : List (AV × AV × Nat)} {rs : List MapEntry} {i : Nat} {r : Option (Nat × AV × Nat)}, ER ρ G w es rs → findE kt k es i = some r →
    ∃ r', Fnd ρ G w rk es rs i r r' ∧ (∀ w', (Instr.findAsking t rk rs i).run P w' = .ok r' w') ∧ (Instr.findNow d rk rs i = if kt.ag && !rs.isEmpty then none else some r')
  | _, _, i, r, .nil, h => by
    simp [findE] at h; subst h
    exact ⟨none, rfl, fun w' => by simp [Instr.findAsking], by simp [Instr.findNow]⟩
  | _, _, i, r, .cons k' v' n' rk' rv es rs hk' hv t, h => by
    simp only [findE] at h
    split at h
    · rename_i hq
      injection h with h; subst h
      refine ⟨some (i, rv), ?_, fun w' => ?_, ?_⟩
      · obtain ⟨e1, e2⟩ := (keyEq_ok ht hk hk' hq default).2.1 rfl
        exact ⟨0, k', { key := rk', val := rv, born := n' }, rfl, rfl, rfl, rfl, hv, rfl, e1.symm, e2⟩
      · have h1 := (keyEq_ok ht hk hk' hq w').1
        simp [Instr.findAsking, h1]
      · have h3 := (keyEq_ok ht hk hk' hq default).2.2 d hd
        cases hag : kt.ag <;> simp [hag] at h3 <;> simp [Instr.findNow, h3]
    · rename_i hq
      obtain ⟨r', h1, h2, h3⟩ := findE_ok ht hk hd t h
      refine ⟨r', h1.cons, fun w' => ?_, ?_⟩
      · have h1 := (keyEq_ok ht hk hk' hq w').1
        simp [Instr.findAsking, h1, h2]
      · have h4 := (keyEq_ok ht hk hk' hq default).2.2 d hd
        cases hag : kt.ag <;> simp [hag] at h4 <;> simp [Instr.findNow, h4]
        simp [hag] at h3; exact h3
    · cases h
/-- THE LAW -/
theorem findK_ok {t : TypeId} {kt : KT} {k : AV} {rk : Value} (ht : keyTy P t = some kt) (hk : VR ρ G w k rk) {es : List (AV × AV × Nat)} {rs : List MapEntry} {r : Option (Nat × AV × Nat)} (he : ER ρ G w es rs) (h : findK kt k es = some r) :
    ∃ r', Fnd ρ G w rk es rs 0 r r' ∧ (∀ w', (Instr.findKey t rk rs).run P w' = .ok r' w') ∧ ∀ em w', (Instr.checkKey em 10000 t rk).run P w' = .ok () w' := by
  unfold findK at h
  split at h
  · rename_i hok
    obtain ⟨h1, h2⟩ := keyTy_some ht
    simp only [tyAg, Option.map_eq_some_iff] at h2
    obtain ⟨desc, hu, hd⟩ := h2
    obtain ⟨r', h3, h4, h5⟩ := findE_ok ht hk hu he h
    refine ⟨r', h3, fun w' => ?_, fun em w' => checkKey_ok ht hk hok em w'⟩
    unfold Instr.findKey
    rw [Sem.run_bind, run_underlying hu]
    simp only [Result.andThen_ok, h5]
    by_cases hc : (kt.ag && !rs.isEmpty) = true
    · simp only [hc, if_true]; exact h4 w'
    · simp only [hc]; simp
  · cases h
end
end Den

set_option autoImplicit false
set_option linter.unusedVariables false
set_option linter.unusedSimpArgs false
namespace Den
open Go Go.RowKit
section
variable {ρ : Vl} {G : Gh} {w w0 : World} {P : Program} {U : TypeId} {e : Env} {a : Act} {B : Nat} {s : St}
theorem rangeAt_part {rb o0 off n : Nat} {vs : List Value} (h : w.rangeAt rb o0 vs) : w.rangeAt rb (o0 + off) ((vs.drop off).take n) := by
  intro j v hj
  rw [List.getElem?_take] at hj
  split at hj
  · rw [List.getElem?_drop] at hj
    have := h _ _ hj
    rw [Nat.add_assoc]; exact this
  · cases hj
theorem loadCells_ok {rb o0 : Nat} {vs : List Value} (h : w.rangeAt rb o0 vs) : (loadCells ⟨rb, o0, none⟩ vs.length).run P w = .ok vs.toArray w :=
  run_loadCells_list w ⟨rb, o0, none⟩ vs fun j v hv => by rw [Addr.add_mid]; exact h j v hv
theorem ld_ok {t : TypeId} {ag : Bool} {n off o0 rb : Nat} {cs : List AV} {vs : List Value} {v : AV} (ha : tyAg P t = some ag) (hn : tySz P t = some n) (hvs : VRs ρ G w cs vs) (h1 : ones cs) (hc : w.rangeAt rb o0 vs) (h : rd ag n cs off = some v) :
    ∃ rv, (loadVar t ⟨rb, o0 + off, none⟩).run P w = .ok rv w ∧ VR ρ G w v rv := by
  unfold rd at h
  split at h
  · rw [nth_eq] at h
    obtain ⟨rv, h2, h3⟩ := hvs.get h
    exact ⟨rv, by simp [loadVar, run_agg ha, hc _ _ h2], h3⟩
  · simp only [tk_eq, dr_eq] at h
    split at h
    · rename_i hb
      injection h with h; subst h
      rw [len_eq] at hb
      have hlen := Nat.eq_of_beq_eq_true hb
      have e1 := ((hvs.drop off).take n).length
      rw [hlen] at e1
      refine ⟨.agg ((vs.drop off).take n).toArray, ?_, .agg _ _ ((hvs.drop off).take n) (ones_sub h1 fun x hx => List.mem_of_mem_drop (List.mem_of_mem_take hx))⟩
      have hl := loadCells_ok (P := P) (rangeAt_part (off := off) (n := n) hc)
      rw [e1] at hl
      simp [loadVar, run_agg ha, run_size hn, hl]
    · cases h
theorem cellsAt_ok {b rb : Nat} {cs : List AV} (hs : SR U ρ B w0 G s w) (h : cellsAt s b = some cs) (hb : G.io b = some rb) :
    ∃ vs et size, VRs ρ G w cs vs ∧ ones cs ∧ w.rangeAt rb 0 vs ∧ w.shape? rb = some (et, size) ∧ vs.length ≤ size ∧ ∀ o, o < size → w.frozen? ⟨rb, o, none⟩ = false := by
  unfold cellsAt at h
  split at h
  · rename_i cs' hg
    injection h with h; subst h
    cases hs.blk b _ rb hg hb with
    | cells _ _ vs et size h h1 hc hs hl hf => exact ⟨vs, et, size, h, h1, hc, hs, hl, hf⟩
  · rename_i t cs' hg
    injection h with h; subst h
    cases hs.blk b _ rb hg hb with
    | bld _ _ _ vs h h1 hc hs hf => exact ⟨vs, _, _, h, h1, hc, hs, Nat.le_refl _, hf⟩
  · cases h
theorem cellsAt_blk {b : Nat} {cs : List AV} (h : cellsAt s b = some cs) : ∃ o, s.blk.get b = some o := by
  unfold cellsAt at h
  split at h
  · exact ⟨_, by assumption⟩
  · exact ⟨_, by assumption⟩
  · cases h
theorem r_ld {dst : Option Nat} {type : TypeId} {pos : String} {aft : Array Edge} {g : Option (Nat × Bool)} {t : TypeId} {ag : Bool} {n : Nat} {x : Operand} {ox : Opd} {v : AV} (hs : SR U ρ B w0 G s w) (hx : VR ρ G w (ox.ev e) (a.eval x))
    (ha : tyAg P t = some ag) (hn : tySz P t = some n) (h : evR e s (.ld ag n ox) = some v) : Yds P ρ G w a ⟨dst, .load t x, type, pos, aft, g⟩ v := by
  simp only [evR] at h
  generalize ox.ev e = y at h hx
  generalize hr : a.eval x = rv at hx
  have fin : ∀ (rb o : Nat) (u : Value), (loadVar t ⟨rb, o, none⟩).run P w = .ok u w → VR ρ G w v u → rv = .pointer (some ⟨rb, o, none⟩) → Yds P ρ G w a ⟨dst, .load t x, type, pos, aft, g⟩ v := by
    intro rb o u h1 h2 h3
    refine yds_of (s := Instr.loadAt t (a.eval x)) rfl ?_ h2
    simp [Instr.loadAt, hr, h3, Instr.sureAddr, h1]
  split at h
  · rename_i b off
    split at h
    · rename_i cs hcs
      cases hx with
      | ptr _ _ rb hb =>
        obtain ⟨vs, et, size, h1, h2, h3, _⟩ := cellsAt_ok hs hcs hb
        obtain ⟨u, h4, h5⟩ := ld_ok ha hn h1 h2 h3 h
        rw [Nat.zero_add] at h4
        exact fin rb off u h4 h5 rfl
    · cases h
  · rename_i off cs
    cases hx with
    | eptr _ o0 rb _ vs m hm hvs h1 hc hf =>
      obtain ⟨u, h4, h5⟩ := ld_ok ha hn hvs h1 hc h
      exact fin rb _ u h4 h5 rfl
  · cases h
theorem entries_ok {b rb : Nat} {es : List (AV × AV × Nat)} {cl : Nat} (hs : SR U ρ B w0 G s w) (h : entries s b = some (es, cl)) (hb : G.io b = some rb) : s.blk.get b = some (.map es cl) ∧ ∃ rs, ER ρ G w es rs ∧ w.heap[rb]? = some (.map rs.toArray cl) := by
  unfold entries at h
  split at h
  · rename_i es' cl' hg
    injection h with h
    simp only [Prod.mk.injEq] at h
    obtain ⟨rfl, rfl⟩ := h
    cases hs.blk b _ rb hg hb with
    | map _ _ _ rs h1 hw => exact ⟨hg, rs, h1, hw⟩
  · cases h
theorem lkp_run {t kty el : TypeId} {rm rk rz : Value} {ok : Bool} {rs : List MapEntry} {r' : Option (Nat × Value)} (hu : P.underlying t = some (.map kty el)) (hm : (rm = .map none ∧ rs = []) ∨ ∃ r cl, rm = .map (some r) ∧ w.heap[r]? = some (.map rs.toArray cl))
    (h2 : ∀ w', (Instr.findKey kty rk rs).run P w' = .ok r' w') (h3 : ∀ em w', (Instr.checkKey em 10000 kty rk).run P w' = .ok () w') (hz : ∀ w', (zeroValue el).run P w' = .ok rz w') :
    (Instr.lookup t rm rk ok).run P w = .ok (match r' with | some (_, u) => if ok then .tuple #[u, .bool true] else u | none => if ok then .tuple #[rz, .bool false] else rz) w := by
  rcases hm with ⟨rfl, rfl⟩ | ⟨r, cl, rfl, hw⟩
  · cases r' with
    | none => simp [Instr.lookup, run_underlying hu, h3, h2, hz]
    | some p => simp [Instr.lookup, run_underlying hu, h3, h2]
  · cases r' with
    | none => simp [Instr.lookup, run_underlying hu, h3, h2, hz, MapKept.run_getObj_map hw]
    | some p => simp [Instr.lookup, run_underlying hu, h3, h2, MapKept.run_getObj_map hw]
theorem pair_ok {x y : AV} {u v : Value} (h1 : VR ρ G w x u) (h2 : VR ρ G w y v) : VR ρ G w (.lst .tup [x, y]) (.tuple #[u, v]) := .tup [x, y] [u, v] (.cons _ _ _ _ h1 (.cons _ _ _ _ h2 .nil))
theorem r_lkp {dst : Option Nat} {type : TypeId} {pos : String} {aft : Array Edge} {g : Option (Nat × Bool)} {t kty el : TypeId} {kt : KT} {ok : Bool} {z : AV} {m k : Operand} {om ok' : Opd} {v : AV} (hs : SR U ρ B w0 G s w) (hm : VR ρ G w (om.ev e) (a.eval m)) (hk : VR ρ G w (ok'.ev e) (a.eval k))
    (hu : P.underlying t = some (.map kty el)) (ht : keyTy P kty = some kt) (hz : tyZero P el = some z) (h : evR e s (.lkp kt ok z om ok') = some v) : Yds P ρ G w a ⟨dst, .lookup t m k ok, type, pos, aft, g⟩ v := by
  simp only [evR] at h
  generalize om.ev e = y at h hm
  generalize hr : a.eval m = rm at hm
  obtain ⟨i, rz, hi, hz', hzv, _⟩ := tyZero_ok hz
  have hzr : ∀ w', (zeroValue el).run P w' = .ok rz w' := fun w' => by simp [zeroValue, typeInfo, hi, hz']
  have fin : ∀ (es : List (AV × AV × Nat)) (rs : List MapEntry) (r : Option (Nat × AV × Nat)), ER ρ G w es rs → findK kt (ok'.ev e) es = some r → ((rm = .map none ∧ rs = []) ∨ ∃ r cl, rm = .map (some r) ∧ w.heap[r]? = some (.map rs.toArray cl)) →
      (match (generalizing := false) (some r : Option (Option (Nat × AV × Nat))) with | some (some (_, v, _)) => some (match (generalizing := false) ok with | true => AV.lst .tup [v, .bool true] | false => v) | some none => some (match (generalizing := false) ok with | true => AV.lst .tup [z, .bool false] | false => z) | none => none) = some v → Yds P ρ G w a ⟨dst, .lookup t m k ok, type, pos, aft, g⟩ v := by
    intro es rs r he hf hm' hv
    obtain ⟨r', h1, h2, h3⟩ := findK_ok ht hk he hf
    have hrun := lkp_run (ok := ok) hu hm' h2 h3 hzr
    refine yds_of (s := Instr.lookup t (a.eval m) (a.eval k) ok) rfl (by rw [hr]; exact hrun) ?_
    cases r with
    | none =>
      have h1' : r' = none := h1
      subst h1'
      simp only [Option.some.injEq] at hv; subst hv
      cases ok
      · exact hzv ρ G w
      · exact pair_ok (hzv ρ G w) (.bool _)
    | some p =>
      obtain ⟨i, u, n⟩ := p
      obtain ⟨j, kk, ent, _, _, _, rfl, hvv, _⟩ := h1
      simp only [Option.some.injEq] at hv; subst hv
      cases ok
      · exact hvv
      · exact pair_ok hvv (.bool _)
  cases hl : lkpE s kt y (ok'.ev e) with
  | none => simp [hl] at h
  | some r =>
    rw [hl] at h
    unfold lkpE at hl
    split at hl
    · cases hm
      exact fin [] [] r .nil hl (.inl ⟨rfl, rfl⟩) h
    · rename_i b
      cases hm with
      | mapr _ rb hb =>
        split at hl
        · rename_i es cl he
          obtain ⟨_, rs, h1, h2⟩ := entries_ok hs he hb
          exact fin es rs r h1 hl (.inr ⟨rb, cl, rfl, h2⟩) h
        · cases hl
    · cases hl
theorem lastN_eq : ∀ (l : List Nat), lastN l = l.getLast?
  | [] => rfl
  | [a] => rfl
  | a :: b :: l => by
    have h1 : lastN (a :: b :: l) = lastN (b :: l) := by simp [lastN]
    rw [h1, lastN_eq (b :: l)]; simp
theorem lastN_ok {l : List Nat} {n : Nat} (h : lastN l = some n) : l.toArray.back? = some n := by
  rw [lastN_eq] at h
  simpa using h
theorem byBorn_ok {n : Nat} : ∀ {es : List (AV × AV × Nat)} {rs : List MapEntry} {k v : AV}, ER ρ G w es rs → byBorn n es = some (k, v) → ∃ ent, rs.find? (fun x => x.born == n) = some ent ∧ VR ρ G w k ent.key ∧ VR ρ G w v ent.val
  | _, _, k, v, .nil, h => by simp [byBorn] at h
  | _, _, k, v, .cons k' v' m rk rv es rs hk hv t, h => by
    simp only [byBorn] at h
    split at h
    · rename_i hb
      have hm := Nat.eq_of_beq_eq_true hb
      injection h with h
      simp only [Prod.mk.injEq] at h
      obtain ⟨rfl, rfl⟩ := h
      exact ⟨{ key := rk, val := rv, born := m }, by simp [List.find?, hm], hk, hv⟩
    · rename_i hb
      obtain ⟨ent, h1, h2⟩ := byBorn_ok t h
      refine ⟨ent, ?_, h2⟩
      have : (m == n) = false := by rw [beq_eq_false_iff_ne]; intro e; subst e; rw [Nat.beq_refl] at hb; cases hb
      rw [List.find?_cons, this]; exact h1
theorem r_ent {dst : Option Nat} {type : TypeId} {pos : String} {aft : Array Edge} {g : Option (Nat × Bool)} {x : Operand} {ox : Opd} {v : AV} (hs : SR U ρ B w0 G s w) (hx : VR ρ G w (ox.ev e) (a.eval x)) (h : evR e s (.ent ox) = some v) :
    Yds P ρ G w a ⟨dst, .entry x, type, pos, aft, g⟩ v := by
  simp only [evR] at h
  generalize ox.ev e = y at h hx
  generalize hr : a.eval x = rx at hx
  split at h
  · rename_i b
    split at h
    · rename_i m since seen last hg
      split at h
      · rename_i es cl n he hn
        split at h
        · rename_i hcl
          have hcl' := Nat.eq_of_beq_eq_true hcl
          split at h
          · rename_i k u hb
            injection h with h; subst h
            cases hx with
            | ptr _ _ rb hb' =>
              cases hs.blk b _ rb hg hb' with
              | miter _ _ _ _ _ rm hm hw =>
                rcases hm with ⟨h0, _⟩ | ⟨mb, r, h1, rfl, h3⟩
                · cases h0
                · injection h1 with h1; subst h1
                  obtain ⟨_, rs, he1, he2⟩ := entries_ok hs he h3
                  obtain ⟨ent, h4, h5, h6⟩ := byBorn_ok he1 hb
                  refine yds_of (s := Instr.entry (a.eval x)) rfl (rv := .tuple #[ent.key, ent.val]) ?_ (pair_ok h5 h6)
                  have g1 : (getObj rb).run P w = .ok (.mapIter (some r) since seen.toArray last) w := by simp [getObj, Sem.run, hw]
                  rw [hr]
                  simp only [Instr.entry, Sem.run_bind, g1, Result.andThen_ok, lastN_ok hn, MapKept.run_getObj_map he2, hcl', bne_self_eq_false, Bool.false_eq_true, if_false]
                  simp [h4]
          · cases h
        · cases h
      · cases h
    · cases h
  · cases h
theorem r_lenM {dst : Option Nat} {type : TypeId} {pos : String} {aft : Array Edge} {g : Option (Nat × Bool)} {ats : Array TypeId} {t kk el : TypeId} {x : Operand} {ox : Opd} {v : AV} (hs : SR U ρ B w0 G s w) (hx : VR ρ G w (ox.ev e) (a.eval x))
    (ht : ats[0]? = some t) (hu : P.underlying t = some (.map kk el)) (h : evR e s (.lenM ox) = some v) : Yds P ρ G w a ⟨dst, .call ⟨.builtin .len, #[x], ats⟩, type, pos, aft, g⟩ v := by
  simp only [evR] at h
  generalize ox.ev e = y at h hx
  generalize hr : a.eval x = rv at hx
  split at h
  · injection h with h; subst h
    cases hx
    exact len_run (by simp [Builtin.len_, ht, hr, run_underlying hu])
  · rename_i b
    split at h
    · rename_i es cl he
      injection h with h; subst h
      cases hx with
      | mapr _ rb hb =>
        obtain ⟨_, rs, h1, h2⟩ := entries_ok hs he hb
        rw [len_eq, ← h1.length]
        exact len_run (by simp [Builtin.len_, ht, hr, run_underlying hu, MapKept.run_getObj_map h2])
    · cases h
  · cases h
theorem bytesOf_ok : ∀ {xs : List AV} {l : List Nat} {vs : List Value}, bytesOf xs = some l → VRs ρ G w xs vs → vs = (l.map (bv ρ)).map (Value.int .u8) ∧ (∀ n ∈ l, 0 ≤ bv ρ n ∧ bv ρ n ≤ 255) ∧ flat xs = xs ∧ l.length = xs.length
  | [], l, vs, h, hv => by
    simp [bytesOf] at h; subst h
    cases hv; simp [flat]
  | .int k n :: xs, l, vs, h, hv => by
    unfold bytesOf at h
    split at h
    · rename_i heq; cases heq
    · rename_i m r heq
      simp only [List.cons.injEq, AV.int.injEq] at heq
      obtain ⟨⟨rfl, rfl⟩, rfl⟩ := heq
      split at h
      · rename_i c hm
        split at h
        · rename_i l' hl
          injection h with h; subst h
          cases hv with
          | cons _ u _ us hu hus =>
            cases hu
            obtain ⟨h1, h2, h3, h4⟩ := bytesOf_ok hl hus
            obtain ⟨k1, k2, k3⟩ := encB_ok (ρ := ρ) hm
            refine ⟨by simp [h1, k1], ?_, by simp [flat, cellsOf, h3], by simp [h4]⟩
            intro n hn
            rcases List.mem_cons.1 hn with rfl | hn
            · rw [k1]; exact ⟨k2, k3⟩
            · exact h2 n hn
        · cases h
      · cases h
    · cases h
  | .bool _ :: xs, l, vs, h, hv => by simp [bytesOf] at h
  | .str _ :: xs, l, vs, h, hv => by simp [bytesOf] at h
  | .ref _ :: xs, l, vs, h, hv => by simp [bytesOf] at h
  | .lst _ _ :: xs, l, vs, h, hv => by simp [bytesOf] at h
theorem pushBytes : ∀ (l : List Nat) (s : ByteArray), ((l.map (bv ρ)).foldl (fun r n => r.push (UInt8.ofNat n.toNat)) s).data.toList = s.data.toList ++ l.map (ub ρ)
  | [], s => by simp
  | n :: l, s => by
    simp only [List.map_cons, List.foldl_cons]
    rw [pushBytes l _]
    simp [ByteArray.push, ub]
theorem elems1 : ∀ {n : Nat} {cs xs : List AV}, elems false 1 n cs = some xs → xs = cs.take n ∧ xs.length = n
  | 0, cs, xs, h => by simp [elems] at h; subst h; simp
  | n + 1, cs, xs, h => by
    simp only [elems, rd] at h
    cases cs with
    | nil => simp [nth] at h
    | cons c cs =>
      simp only [nth, dr] at h
      split at h
      · rename_i r hr
        injection h with h; subst h
        have h' : elems false 1 n cs = some r := hr
        obtain ⟨h1, h2⟩ := elems1 h'
        subst h1
        exact ⟨by simp, by simpa using h2⟩
      · cases h
theorem r_cvts {dst : Option Nat} {type : TypeId} {pos : String} {aft : Array Edge} {g : Option (Nat × Bool)} {t t' el : TypeId} {x : Operand} {ox : Opd} {v : AV} (hs : SR U ρ B w0 G s w) (hx : VR ρ G w (ox.ev e) (a.eval x))
    (hu : P.underlying t = some (.slice el)) (he : P.underlying el = some (.int .u8)) (hd : P.underlying t' = some .string) (h : evR e s (.cvts ox) = some v) : Yds P ρ G w a ⟨dst, .convert t t' x, type, pos, aft, g⟩ v := by
  simp only [evR] at h
  generalize ox.ev e = y at h hx
  generalize hr : a.eval x = rv at hx
  have fin : ∀ (rb o n c : Nat) (l : List Nat) (vs : List Value), rv = .slice (some ⟨rb, o, none⟩) n c → vs = (l.map (bv ρ)).map (Value.int .u8) → (∀ n ∈ l, 0 ≤ bv ρ n ∧ bv ρ n ≤ 255) → vs.length = n → (n = 0 ∨ w.rangeAt rb o vs) → v = .str l → Yds P ρ G w a ⟨dst, .convert t t' x, type, pos, aft, g⟩ v := by
    intro rb o n c l vs h1 h2 h3 h4 h5 h6
    subst h6
    have hl : (loadCells ⟨rb, o, none⟩ n).run P w = .ok vs.toArray w := by
      rcases h5 with h5 | h5
      · subst h5
        have : vs = [] := List.eq_nil_of_length_eq_zero h4
        subst this
        simp [loadCells, loadCellsFrom]
      · rw [← h4]; exact loadCells_ok h5
    rw [h2] at hl
    refine yds_of (s := convert t t' (a.eval x)) rfl (rv := .string ((l.map (bv ρ)).foldl (fun r n => r.push (UInt8.ofNat n.toNat)) ByteArray.empty)) ?_ (.str _ _ ?_)
    · rw [hr, h1, run_convert_bytes_string w t t' el _ n c hu he hd]
      exact run_bytesToString w _ n c _ hl
    · rw [pushBytes l _]; exact Bs.ub h3
  split at h
  · injection h with h; subst h
    cases hx
    refine yds_of (s := convert t t' (a.eval x)) rfl (rv := .string .empty) ?_ (.str _ _ Bs.nil)
    rw [hr, run_convert_bytes_string w t t' el _ _ _ hu he hd]
    simp [Conv.bytesToString]
  · rename_i tok st xc xs
    split at h
    · rename_i l hl
      injection h with h; subst h
      cases hx with
      | vsl _ _ _ rb rcap o _ _ vs m hm hz ht h0 hf hel hvs h1 hc hcap hxc htot ho =>
        have hfl : flat xs = xs := by
          have : ∀ {xs : List AV} {l : List Nat}, bytesOf xs = some l → flat xs = xs := by
            intro xs
            induction xs with
            | nil => intro l _; rfl
            | cons x xs ih =>
              intro l h
              unfold bytesOf at h
              split at h
              · rename_i heq; cases heq
              · rename_i heq
                simp only [List.cons.injEq] at heq
                obtain ⟨rfl, rfl⟩ := heq
                split at h
                · split at h
                  · rename_i hq
                    simp [flat, cellsOf, ih hq]
                  · cases h
                · cases h
              · cases h
          exact this hl
        rw [hfl] at hvs
        obtain ⟨e1, e2, e3, e4⟩ := bytesOf_ok hl hvs
        have e5 := hvs.length
        refine fin rb o _ _ l vs rfl e1 e2 e5 ?_ rfl
        rcases Nat.eq_zero_or_pos rcap with h0' | h0'
        · left; omega
        · right; rw [ho h0']; exact hc
    · cases h
  · rename_i b off n cap
    split at h
    · rename_i cs hcs
      split at h
      · rename_i xs hxs
        split at h
        · rename_i l hl
          injection h with h; subst h
          cases hx with
          | hsl _ _ _ _ _ rb rcap et size o hb hz h1 h2 hs' h3 ho =>
            obtain ⟨vs, et', size', k1, k2, k3, _⟩ := cellsAt_ok hs hcs hb
            obtain ⟨q1, q2⟩ := elems1 hxs
            rw [dr_eq] at q1
            have kk : VRs ρ G w xs ((vs.drop off).take n) := by rw [q1]; exact (k1.drop off).take n
            obtain ⟨e1, e2, e3, e4⟩ := bytesOf_ok hl kk
            have e5 := kk.length
            refine fin rb o _ _ l _ rfl e1 e2 (by omega) ?_ rfl
            rcases Nat.eq_zero_or_pos rcap with h0' | h0'
            · left; omega
            · right; rw [ho h0']
              have := rangeAt_part (off := off) (n := n) k3
              rw [Nat.zero_add] at this; exact this
        · cases h
      · cases h
    · cases h
  · cases h
theorem evR_ok {heap : Bool} {o : Oper} {q : ROp} (hc : comp P U heap o = some (.r q)) (hr : Rd ρ G w e a o) (hs : SR U ρ B w0 G s w) {v : AV} (h : evR e s q = some v) : Yds P ρ G w a o v := by
  obtain ⟨dst, op, type, pos, aft, g⟩ := o
  have hr' : ∀ x ∈ op.operands, ∀ ox, cOpd x = some ox → VR ρ G w (ox.ev e) (a.eval x) := hr
  cases op <;> simp only [comp, Option.bind_eq_bind, Option.bind_eq_some_iff, Option.pure_def, Option.some.injEq, reduceCtorEq, and_false, exists_false, K.r.injEq] at hc <;> simp only [Op.operands] at hr'
  case load t x =>
    obtain ⟨ag, ha, n, hn, ox, hx, rfl⟩ := hc
    exact r_ld hs (hr' x (by simp) _ hx) ha hn h
  case lookup t m k ok =>
    split at hc
    · rename_i kty el hu
      simp only [Option.bind_eq_some_iff, Option.some.injEq, reduceCtorEq, and_false, exists_false, K.r.injEq] at hc
      obtain ⟨kt, hkt, z, hz, om, hm, okk, hk, rfl⟩ := hc
      exact r_lkp hs (hr' m (by simp) _ hm) (hr' k (by simp) _ hk) hu hkt hz h
    · cases hc
  case entry x =>
    obtain ⟨ox, hx, rfl⟩ := hc
    exact r_ent hs (hr' x (by simp) _ hx) h
  case convert t t' x =>
    split at hc
    · simp only [Option.bind_eq_some_iff, Option.some.injEq, reduceCtorEq, and_false, exists_false, K.r.injEq] at hc
    · simp only [Option.bind_eq_some_iff, Option.some.injEq, reduceCtorEq, and_false, exists_false, K.r.injEq] at hc
    · rename_i el hu hd
      split at hc
      · rename_i he
        simp only [Option.bind_eq_some_iff, Option.some.injEq, reduceCtorEq, and_false, exists_false, K.r.injEq] at hc
        obtain ⟨ox, hx, rfl⟩ := hc
        exact r_cvts hs (hr' x (by simp) _ hx) hu he hd h
      · cases hc
    · split at hc
      · split at hc
        · simp only [Option.bind_eq_some_iff, Option.some.injEq, reduceCtorEq, and_false, exists_false, K.r.injEq] at hc
        · cases hc
      · cases hc
    · cases hc
  case call c =>
    obtain ⟨callee, args, ats⟩ := c
    cases callee with
    | value f => simp only [Option.bind_eq_some_iff, Option.some.injEq, reduceCtorEq, and_false, exists_false, K.r.injEq] at hc
    | invoke r m => cases hc
    | builtin b =>
      simp only [Option.bind_eq_some_iff] at hc
      obtain ⟨as, has, hc⟩ := hc
      split at hc
      · simp only [Option.bind_eq_some_iff, Option.some.injEq, reduceCtorEq, and_false, exists_false, K.r.injEq] at hc
        obtain ⟨_, _, _, _, _, _, _, _, hc⟩ := hc
        split at hc <;> cases hc
      · rename_i ox t ts hts
        have ht : ats[0]? = some t := by
          have := congrArg (fun l => l[0]?) hts
          simpa using this
        obtain ⟨x, hx, h1⟩ := cOpds_one has
        have hargs : args = #[x] := Array.ext' (by simpa using hx)
        subst hargs
        have vx := hr' x (by simp [Call.operands]) _ h1
        split at hc
        · cases hc
        · split at hc <;> cases hc
        · rename_i kk el hu
          simp only [Option.bind_eq_some_iff, Option.some.injEq, reduceCtorEq, and_false, exists_false, K.r.injEq] at hc
          subst hc
          exact r_lenM hs vx ht hu h
        · cases hc
        · cases hc
        · cases hc
      · cases hc
      · cases hc
      · split at hc
        · simp only [Option.bind_eq_some_iff, Option.some.injEq, reduceCtorEq, and_false, exists_false, K.r.injEq] at hc
        · cases hc
      · simp only [Option.bind_eq_some_iff, Option.some.injEq, reduceCtorEq, and_false, exists_false, K.r.injEq] at hc
      · cases hc
      · split at hc
        · split at hc <;> cases hc
        · cases hc
      · cases hc
  case makeMap t r => cases r <;> cases hc
  case fieldAddr t x i =>
    obtain ⟨_, _, _, _, _, _, hc⟩ := hc
    split at hc
    · cases hc
    · simp only [Option.bind_eq_some_iff, Option.some.injEq, reduceCtorEq, and_false, exists_false, K.r.injEq] at hc
  case next it b =>
    cases b
    · simp only [Option.bind_eq_bind, Option.pure_def] at hc; simp only [Option.bind_eq_some_iff, Option.some.injEq, reduceCtorEq, and_false, exists_false, K.r.injEq] at hc
    · cases hc
  all_goals first
    | (cases hc; done)
    | (exfalso; revert hc; first | (split <;> simp [Option.bind_eq_some_iff]; done) | (split <;> (try split) <;> simp [Option.bind_eq_some_iff]; done) | (simp [Option.bind_eq_some_iff]; done))
    | skip
end
end Den

set_option autoImplicit false
set_option linter.unusedVariables false
set_option linter.unusedSimpArgs false
namespace Den
open Go Go.RowKit
theorem Tr.get_leaf {α : Type} (j : Nat) : (Tr.leaf : Tr α).get j = none := by cases j <;> rfl
theorem Tr.get_zero {α : Type} (t : Tr α) : t.get 0 = t.top := by cases t <;> rfl
theorem Tr.get_succ {α : Type} (t : Tr α) (j : Nat) : t.get (j + 1) = if j % 2 = 0 then t.lft.get (j / 2) else t.rgt.get (j / 2) := by
  cases t with
  | leaf =>
    show none = _
    simp [Tr.lft, Tr.rgt, Tr.get_leaf]
  | node l v r =>
    show (match j % 2 with | 0 => l.get (j / 2) | _ => r.get (j / 2)) = _
    rcases Nat.mod_two_eq_zero_or_one j with h | h
    · simp [h, Tr.lft]
    · simp [h, Tr.rgt]
theorem Tr.get_set {α : Type} : ∀ (f : Nat) (t : Tr α) (i : Nat) (x : Option α) (j : Nat), i < f → (Tr.set f t i x).get j = if i = j then x else t.get j
  | 0, t, i, x, j, h => by omega
  | f + 1, t, 0, x, 0, h => by simp [Tr.set, Tr.get_zero, Tr.top]
  | f + 1, t, 0, x, j + 1, h => by
    rw [if_neg (by omega), Tr.get_succ, Tr.get_succ]
    rfl
  | f + 1, t, i + 1, x, 0, h => by
    rw [if_neg (by omega), Tr.get_zero, Tr.get_zero]
    simp only [Tr.set]
    split <;> rfl
  | f + 1, t, i + 1, x, j + 1, h => by
    have ih := fun t => Tr.get_set f t (i / 2) x (j / 2) (by omega)
    rw [Tr.get_succ, Tr.get_succ]
    simp only [Tr.set]
    rcases Nat.mod_two_eq_zero_or_one i with hi | hi <;> rcases Nat.mod_two_eq_zero_or_one j with hj | hj
    · simp only [hi, hj, if_true, Tr.lft, ih]
      by_cases h' : i = j
      · subst h'; simp
      · rw [if_neg (by omega), if_neg (by omega)]
    · simp only [hi, hj, Tr.rgt]
      rw [if_neg (by omega)]
      simp
      intro h'; omega
    · simp only [hi, hj, if_true, Tr.lft]
      rw [if_neg (by omega)]
    · simp only [hi, hj, Tr.rgt, ih]
      by_cases h' : i = j
      · subst h'; simp
      · simp only [Nat.one_ne_zero, if_false]
        rw [if_neg (by omega), if_neg (by omega)]
theorem Tr.get_put {α : Type} (t : Tr α) (i : Nat) (x : α) (j : Nat) : (t.put i x).get j = if i = j then some x else t.get j := Tr.get_set _ t i _ j (by omega)
theorem Tr.get_del {α : Type} (t : Tr α) (i : Nat) (j : Nat) : (t.del i).get j = if i = j then none else t.get j := Tr.get_set _ t i _ j (by omega)
theorem Tr.put_same {α : Type} (t : Tr α) (i : Nat) (x : α) : (t.put i x).get i = some x := by rw [Tr.get_put, if_pos rfl]
theorem Tr.put_other {α : Type} (t : Tr α) {i j : Nat} (x : α) (h : j ≠ i) : (t.put i x).get j = t.get j := by rw [Tr.get_put, if_neg (Ne.symm h)]
/-- how an abstract state goes on -/
structure Nxt (G : Gh) (s : St) (G' : Gh) (s' : St) : Prop where
  nb : s.nb ≤ s'.nb
  nt : s.nt ≤ s'.nt
  pend : ∀ b, b < s.nb → G.io b = none → G'.io b = none ∧ s'.blk.get b = s.blk.get b
  top : ∀ t T, s.top.get t = some T → ∃ T', s'.top.get t = some T' ∧ T ≤ T'
theorem Nxt.refl (G : Gh) (s : St) : Nxt G s G s := ⟨Nat.le_refl _, Nat.le_refl _, fun _ _ h => ⟨h, rfl⟩, fun _ T h => ⟨T, h, Nat.le_refl _⟩⟩
theorem Nxt.trans {G G' G'' : Gh} {s s' s'' : St} (h : Nxt G s G' s') (k : Nxt G' s' G'' s'') : Nxt G s G'' s'' where
  nb := Nat.le_trans h.nb k.nb
  nt := Nat.le_trans h.nt k.nt
  pend b hb hg := by
    obtain ⟨h1, h2⟩ := h.pend b hb hg
    obtain ⟨h3, h4⟩ := k.pend b (Nat.lt_of_lt_of_le hb h.nb) h1
    exact ⟨h3, h4.trans h2⟩
  top t T e := by
    obtain ⟨T', e', l⟩ := h.top t T e
    obtain ⟨T'', e'', l'⟩ := k.top t T' e'
    exact ⟨T'', e'', Nat.le_trans l l'⟩
section
variable {ρ : Vl} {G : Gh} {w w0 : World} {P : Program} {U : TypeId} {e : Env} {a : Act} {B : Nat} {s : St}
theorem IM.top_mono {s' : St} {rb : Nat} {m : Imm} (h : IM U B s w rb m) (ht : ∀ t T, s.top.get t = some T → ∃ T', s'.top.get t = some T' ∧ T ≤ T') (hn : s.nt ≤ s'.nt) : IM U B s' w rb m := by
  obtain ⟨T, h1, h2⟩ := h.top
  obtain ⟨T', h3, h4⟩ := ht _ _ h1
  exact ⟨h.z, h.fit, h.blk, ⟨T', h3, Nat.le_trans h2 h4⟩, Nat.lt_of_lt_of_le h.tok hn, h.base⟩
/-- a new abstract block, of which nothing is said -/
theorem SR.newBlk (h : SR U ρ B w0 G s w) (o : AObj) : SR U ρ B w0 G (newBlk s o) w ∧ Nxt G s G (newBlk s o) := by
  have hn : G.io s.nb = none := (h.new s.nb (Nat.le_refl _)).1
  refine ⟨⟨?_, ?_, ?_, h.newt, h.even, ?_, ?_, h.lt, h.below, h.le⟩, ⟨Nat.le_succ _, Nat.le_refl _, fun b hb hg => ⟨hg, ?_⟩, fun t T e => ⟨T, e, Nat.le_refl _⟩⟩⟩
  · intro b o' rb hb hg
    by_cases hbn : b = s.nb
    · subst hbn; rw [hn] at hg; cases hg
    · exact h.blk b o' rb (by rw [← Tr.put_other s.blk o hbn]; exact hb) hg
  · intro b b' o1 o2 rb hb hb' hg hg'
    by_cases hbn : b = s.nb
    · subst hbn; rw [hn] at hg; cases hg
    · by_cases hbn' : b' = s.nb
      · subst hbn'; rw [hn] at hg'; cases hg'
      · exact h.inj b b' o1 o2 rb (by rw [← Tr.put_other s.blk o hbn]; exact hb) (by rw [← Tr.put_other s.blk o hbn']; exact hb') hg hg'
  · intro b hb
    have hb' : s.nb + 1 ≤ b := hb
    obtain ⟨h1, h2⟩ := h.new b (by omega)
    exact ⟨h1, by show (s.blk.put s.nb o).get b = none; rw [Tr.put_other _ _ (by omega), h2]⟩
  · intro b o' rb hb hg
    by_cases hbn : b = s.nb
    · subst hbn; rw [hn] at hg; cases hg
    · exact h.apart b o' rb (by rw [← Tr.put_other s.blk o hbn]; exact hb) hg
  · exact fun rb m hm => (h.im rb m hm).top_mono (fun t T e => ⟨T, e, Nat.le_refl _⟩) (Nat.le_refl _)
  · show (s.blk.put s.nb o).get b = s.blk.get b
    rw [Tr.put_other _ _ (by omega)]
/-- a new token, of which nothing is said -/
theorem SR.newTok (h : SR U ρ B w0 G s w) {u : Nat} (hu : u ≤ 1) (n : Nat) : SR U ρ B w0 G (newTok s u n) w ∧ Nxt G s G (newTok s u n) := by
  have hnn : s.top.get (s.nt + u) = none := h.newt _ (by omega)
  have htop : ∀ t T, s.top.get t = some T → ∃ T', (s.top.put (s.nt + u) n).get t = some T' ∧ T ≤ T' := by
    intro t T e
    refine ⟨T, ?_, Nat.le_refl _⟩
    rw [Tr.put_other]; exact e
    rintro rfl; rw [hnn] at e; cases e
  refine ⟨⟨h.blk, h.inj, h.new, ?_, ?_, h.apart, ?_, h.lt, h.below, h.le⟩, ⟨Nat.le_refl _, by show s.nt ≤ s.nt + 2; omega, fun b hb hg => ⟨hg, rfl⟩, htop⟩⟩
  · intro t ht
    have ht' : s.nt + 2 ≤ t := ht
    show (s.top.put (s.nt + u) n).get t = none
    rw [Tr.put_other _ _ (by omega)]
    exact h.newt t (by omega)
  · show (s.nt + 2) % 2 = 0
    have := h.even
    omega
  · exact fun rb m hm => (h.im rb m hm).top_mono htop (by show s.nt ≤ s.nt + 2; omega)
def Made.ok : Made → Prop
  | .sl _ u _ _ _ => u ≤ 1
  | _ => True
theorem SR.made (h : SR U ρ B w0 G s w) {m : Made} (hm : m.ok) : SR U ρ B w0 G (m.put s).2 w ∧ Nxt G s G (m.put s).2 := by
  cases m with
  | cells cs => exact h.newBlk _
  | cellsT t cs => exact h.newBlk _
  | map => exact h.newBlk _
  | sl heap u z xs xc =>
    cases heap
    · exact h.newTok hm _
    · exact h.newBlk _
end
end Den

set_option autoImplicit false
set_option linter.unusedVariables false
set_option linter.unusedSimpArgs false
namespace Den
open Go Go.RowKit
def Gh.own (G : Gh) (b rb : Nat) : Gh := { G with io := fun x => if x = b then some rb else G.io x }
def Gh.row (G : Gh) (rb : Nat) (m : Imm) : Gh := { G with im := fun x => if x = rb then some m else G.im x }
section
variable {ρ : Vl} {G : Gh} {w w0 : World} {P : Program} {U : TypeId} {e : Env} {a : Act} {B : Nat} {s : St}
theorem im_lt (h : SR U ρ B w0 G s w) {rb : Nat} {m : Imm} (hm : G.im rb = some m) : rb < w.heap.size := by
  obtain ⟨et, hs⟩ := (h.im rb m hm).shape
  exact shape_lt hs
theorem Ext.own {w' : World} (h : SR U ρ B w0 G s w) (c : Chg0 w w') {b rb : Nat} (hb : G.io b = none) : Ext G w (G.own b rb) w' where
  io x r hx := by
    show (if x = b then some rb else G.io x) = some r
    rw [if_neg]; exact hx
    rintro rfl; rw [hb] at hx; cases hx
  im rb m hm := ⟨m, hm, rfl, rfl, rfl, rfl, Nat.le_refl _⟩
  cell r m o hm _ := c.cell r o (im_lt h hm)
  shape r et n hs := by rw [c.shape r (shape_lt hs)]; exact hs
theorem SR.own {w' : World} (h : SR U ρ B w0 G s w) (c : Chg0 w w') {b rb : Nat} (hb : G.io b = none) (hlt : b < s.nb) (hrb : w.heap.size ≤ rb) (hrb' : rb < w'.heap.size) (ho : ∀ o, s.blk.get b = some o → OR ρ (G.own b rb) w' o rb) :
    SR U ρ B w0 (G.own b rb) s w' where
  blk x o r hx hr := by
    have hr' : (if x = b then some rb else G.io x) = some r := hr
    by_cases hxb : x = b
    · subst hxb
      rw [if_pos rfl] at hr'; injection hr' with hr'; subst hr'
      exact ho o hx
    · rw [if_neg hxb] at hr'
      exact (h.blk x o r hx hr').chg0 c (Ext.own h c hb) (h.lt x r hr').1
  inj x x' o o' r hx hx' hr hr' := by
    have h1 : (if x = b then some rb else G.io x) = some r := hr
    have h2 : (if x' = b then some rb else G.io x') = some r := hr'
    by_cases hxb : x = b <;> by_cases hxb' : x' = b
    · rw [hxb, hxb']
    · rw [if_pos hxb] at h1; rw [if_neg hxb'] at h2
      injection h1 with h1; subst h1
      have := (h.lt x' _ h2).1; omega
    · rw [if_neg hxb] at h1; rw [if_pos hxb'] at h2
      injection h2 with h2; subst h2
      have := (h.lt x _ h1).1; omega
    · rw [if_neg hxb] at h1; rw [if_neg hxb'] at h2
      exact h.inj x x' o o' r hx hx' h1 h2
  new x hx := by
    obtain ⟨h1, h2⟩ := h.new x hx
    refine ⟨?_, h2⟩
    show (if x = b then some rb else G.io x) = none
    rw [if_neg (by omega)]; exact h1
  newt := h.newt
  even := h.even
  apart x o r hx hr := by
    have hr' : (if x = b then some rb else G.io x) = some r := hr
    show G.im r = none
    by_cases hxb : x = b
    · rw [if_pos hxb] at hr'; injection hr' with hr'; subst hr'
      cases hm : G.im rb with
      | none => rfl
      | some m => have := im_lt h hm; omega
    · rw [if_neg hxb] at hr'; exact h.apart x o r hx hr'
  im r m hm := (h.im r m hm).chg0 c
  lt x r hr := by
    have hr' : (if x = b then some rb else G.io x) = some r := hr
    by_cases hxb : x = b
    · rw [if_pos hxb] at hr'; injection hr' with hr'; subst hr'
      exact ⟨hrb', Nat.le_trans h.le hrb⟩
    · rw [if_neg hxb] at hr'
      exact ⟨Nat.lt_of_lt_of_le (h.lt x r hr').1 c.size, (h.lt x r hr').2⟩
  below := c.below h.below h.le
  le := Nat.le_trans h.le c.size
theorem Ext.row {w' : World} (h : SR U ρ B w0 G s w) (c : Chg0 w w') {rb : Nat} {m : Imm} (hrb : w.heap.size ≤ rb) : Ext G w (G.row rb m) w' where
  io x r hx := hx
  im r m' hm := by
    refine ⟨m', ?_, rfl, rfl, rfl, rfl, Nat.le_refl _⟩
    show (if r = rb then some m else G.im r) = some m'
    rw [if_neg]; exact hm
    have := im_lt h hm; omega
  cell r m' o hm _ := c.cell r o (im_lt h hm)
  shape r et n hs := by rw [c.shape r (shape_lt hs)]; exact hs
theorem SR.row {w' : World} (h : SR U ρ B w0 G s w) (c : Chg0 w w') {rb : Nat} {m : Imm} (hrb : w.heap.size ≤ rb) (hm : IM U B s w' rb m) : SR U ρ B w0 (G.row rb m) s w' where
  blk x o r hx hr := (h.blk x o r hx hr).chg0 c (Ext.row h c hrb) (h.lt x r hr).1
  inj := h.inj
  new := h.new
  newt := h.newt
  even := h.even
  apart x o r hx hr := by
    show (if r = rb then some m else G.im r) = none
    rw [if_neg]; exact h.apart x o r hx hr
    have := (h.lt x r hr).1; omega
  im r m' hr := by
    have hr' : (if r = rb then some m else G.im r) = some m' := hr
    by_cases hrr : r = rb
    · rw [if_pos hrr] at hr'; injection hr' with hr'; subst hr'; subst hrr; exact hm
    · rw [if_neg hrr] at hr'; exact (h.im r m' hr').chg0 c
  lt x r hr := ⟨Nat.lt_of_lt_of_le (h.lt x r hr).1 c.size, (h.lt x r hr).2⟩
  below := c.below h.below h.le
  le := Nat.le_trans h.le c.size
theorem heap_new (w : World) (o : Obj) : (w.alloc o).heap[w.heap.size]? = some o := (MapKept.heap_alloc w o).1
/-- a new block of cells -/
theorem OR.fresh {cs : List AV} {vs : List Value} {rb : Nat} {arr : Array Value} {et : TypeId} {lo hi : Nat} (hw : w.heap[rb]? = some (.cells arr et (lo, hi))) (hpre : ∀ (j : Nat) (v : Value), vs[j]? = some v → arr[j]? = some v) (hl : vs.length ≤ arr.size) (hf : hi ≤ lo ∨ arr.size ≤ lo) (h : VRs ρ G w cs vs) (h1 : ones cs) :
    OR ρ G w (.cells cs) rb := by
  refine .cells cs rb vs et arr.size h h1 ?_ ?_ hl ?_
  · intro j v hj
    simp [World.cell?, hw, hpre j v hj]
  · simp [World.shape?, hw]
  · intro o ho
    simp only [World.frozen?, hw]
    rcases hf with hf | hf
    · simp; omega
    · simp; omega
/-- what an abstract value for a new thing says -/
def Made.val (m : Made) (id : Nat) : AV := match m with
  | .cells _ => .ref (.ptr id 0)
  | .cellsT _ _ => .ref (.ptr id 0)
  | .map => .ref (.mapr id)
  | .sl true _ z xs _ => .ref (.hsl z id 0 (len xs) (len xs))
  | .sl false _ z xs xc => .lst (.vsl z id 0 xc) xs
/-- it stands in the abstract state, and not yet in the world -/
def Pend (G : Gh) (s : St) (m : Made) (id : Nat) : Prop := match m with
  | .cells cs => id < s.nb ∧ G.io id = none ∧ s.blk.get id = some (.cells cs)
  | .cellsT t cs => id < s.nb ∧ G.io id = none ∧ s.blk.get id = some (.bld t cs)
  | .map => id < s.nb ∧ G.io id = none ∧ s.blk.get id = some (.map [] 0)
  | .sl true _ _ xs _ => id < s.nb ∧ G.io id = none ∧ s.blk.get id = some (.cells (flat xs))
  | .sl false u _ xs _ => id < s.nt ∧ id % 2 = u ∧ ∃ T, s.top.get id = some T ∧ len xs ≤ T
def Made.isBlk : Made → Bool | .sl false _ _ _ _ => false | _ => true
theorem Made.put_val (m : Made) (s : St) (hm : m.ok) (h : SR U ρ B w0 G s w) : ∃ id, (m.put s).1 = m.val id ∧ Pend G (m.put s).2 m id ∧ (m.isBlk = true → id = s.nb) := by
  cases m with
  | cells cs => exact ⟨s.nb, rfl, ⟨Nat.lt_succ_self _, (h.new _ (Nat.le_refl _)).1, Tr.put_same _ _ _⟩, fun _ => rfl⟩
  | cellsT t cs => exact ⟨s.nb, rfl, ⟨Nat.lt_succ_self _, (h.new _ (Nat.le_refl _)).1, Tr.put_same _ _ _⟩, fun _ => rfl⟩
  | map => exact ⟨s.nb, rfl, ⟨Nat.lt_succ_self _, (h.new _ (Nat.le_refl _)).1, Tr.put_same _ _ _⟩, fun _ => rfl⟩
  | sl heap u z xs xc =>
    cases heap
    · have hu : u ≤ 1 := hm
      have := h.even
      refine ⟨s.nt + u, rfl, ⟨?_, by omega, len xs, Tr.put_same _ _ _, Nat.le_refl _⟩, fun h => by cases h⟩
      show s.nt + u < s.nt + 2
      omega
    · exact ⟨s.nb, rfl, ⟨Nat.lt_succ_self _, (h.new _ (Nat.le_refl _)).1, Tr.put_same _ _ _⟩, fun _ => rfl⟩
/-- what a real making has to do -/
def Makes (U : TypeId) (ρ : Vl) (B : Nat) (w0 : World) (G : Gh) (s : St) (w : World) (m : Made) (id : Nat) (r : Result Next) : Prop :=
  ∃ rv w' G', r = .ok (.value rv) w' ∧ SR U ρ B w0 G' s w' ∧ Ext G w G' w' ∧ VR ρ G' w' (m.val id) rv ∧ (∀ b, G.io b = none → G'.io b = none ∨ (b = id ∧ m.isBlk = true))
theorem makes_own {m : Made} {id : Nat} {w' : World} {r : Result Next} {rv : Value} (h : SR U ρ B w0 G s w) (c : Chg0 w w') (hsz : w.heap.size < w'.heap.size) (hb : G.io id = none) (hlt : id < s.nb) (hm : m.isBlk = true) (hr : r = .ok (.value rv) w')
    (ho : ∀ o, s.blk.get id = some o → OR ρ (G.own id w.heap.size) w' o w.heap.size) (hv : VR ρ (G.own id w.heap.size) w' (m.val id) rv) : Makes U ρ B w0 G s w m id r := by
  refine ⟨rv, w', G.own id w.heap.size, hr, h.own c hb hlt (Nat.le_refl _) hsz ho, Ext.own h c hb, hv, fun b hb' => ?_⟩
  by_cases hbi : b = id
  · exact .inr ⟨hbi, hm⟩
  · left
    show (if b = id then some w.heap.size else G.io b) = none
    rw [if_neg hbi]; exact hb'
theorem own_io (G : Gh) (b rb : Nat) : (G.own b rb).io b = some rb := by simp [Gh.own]
/-- a new row of cells: a variable -/
theorem makes_cells {cs : List AV} {id : Nat} {arr : Array Value} {et : TypeId} {r : Result Next} (h : SR U ρ B w0 G s w) (hp : Pend G s (.cells cs) id) (hv : VRs ρ G w cs arr.toList) (h1 : ones cs)
    (hr : r = .ok (.value (.pointer (some ⟨w.heap.size, 0, none⟩))) (w.alloc (.cells arr et))) : Makes U ρ B w0 G s w (.cells cs) id r := by
  obtain ⟨hlt, hio, hg⟩ := hp
  refine makes_own h (Chg0.alloc w _) (by simp) hio hlt rfl hr (fun o ho => ?_) (.ptr id 0 w.heap.size (own_io _ _ _))
  rw [hg] at ho; injection ho with ho; subst ho
  exact OR.fresh (arr := arr) (et := et) (lo := 0) (hi := 0) (vs := arr.toList) (heap_new w _) (fun j v hj => by simpa using hj) (by simp) (.inl (Nat.le_refl _)) (hv.ext (Ext.own h (Chg0.alloc w _) hio)) h1
theorem makes_cellsT {t : Nat} {cs : List AV} {id : Nat} {arr : Array Value} {r : Result Next} (h : SR U ρ B w0 G s w) (hp : Pend G s (.cellsT t cs) id) (hv : VRs ρ G w cs arr.toList) (h1 : ones cs)
    (hr : r = .ok (.value (.pointer (some ⟨w.heap.size, 0, none⟩))) (w.alloc (.cells arr t))) : Makes U ρ B w0 G s w (.cellsT t cs) id r := by
  obtain ⟨hlt, hio, hg⟩ := hp
  refine makes_own h (Chg0.alloc w _) (by simp) hio hlt rfl hr (fun o ho => ?_) (.ptr id 0 w.heap.size (own_io _ _ _))
  rw [hg] at ho; injection ho with ho; subst ho
  have hw := heap_new w (.cells arr t)
  refine .bld t cs _ arr.toList (hv.ext (Ext.own h (Chg0.alloc w _) hio)) h1 (fun j v hj => ?_) ?_ (fun o ho => ?_)
  · simp only [World.cell?, hw]
    simpa using hj
  · simp only [World.shape?, hw]
    simp
  · simp only [World.frozen?, hw]
    simp
theorem makes_map {id : Nat} {r : Result Next} (h : SR U ρ B w0 G s w) (hp : Pend G s .map id) (hr : r = .ok (.value (.map (some w.heap.size))) (w.alloc (.map #[] 0))) : Makes U ρ B w0 G s w .map id r := by
  obtain ⟨hlt, hio, hg⟩ := hp
  refine makes_own h (Chg0.alloc w _) (by simp) hio hlt rfl hr (fun o ho => ?_) (.mapr id w.heap.size (own_io _ _ _))
  rw [hg] at ho; injection ho with ho; subst ho
  exact .map [] 0 w.heap.size [] .nil (heap_new w _)
end
end Den

set_option autoImplicit false
set_option linter.unusedVariables false
set_option linter.unusedSimpArgs false
namespace Den
open Go Go.RowKit
section
variable {ρ : Vl} {G : Gh} {w w0 : World} {P : Program} {U : TypeId} {e : Env} {a : Act} {B : Nat} {s : St}
theorem one_cells {x : AV} (h : one x = true) : cellsOf x = [x] := by
  cases x with
  | lst hd xs => cases hd <;> first | (simp [one] at h; done) | rfl
  | _ => rfl
theorem elems_ok {ag : Bool} {z : Nat} (hz : 0 < z) (hag : ag = true ∨ z = 1) : ∀ {n : Nat} {cs xs : List AV}, elems ag z n cs = some xs → ones cs → flat xs = cs.take (n * z) ∧ xs.length = n ∧ (∀ x ∈ xs, (cellsOf x).length = z) ∧ n * z ≤ cs.length
  | 0, cs, xs, h, _ => by simp [elems] at h; subst h; simp [flat]
  | n + 1, cs, xs, h, h1 => by
    simp only [elems] at h
    split at h
    · rename_i x hx
      split at h
      · rename_i r hr
        injection h with h; subst h
        rw [dr_eq] at hr
        obtain ⟨i1, i2, i3, i4⟩ := elems_ok hz hag hr (ones_sub h1 fun y hy => List.mem_of_mem_drop hy)
        have hx' : cellsOf x = cs.take z ∧ (cellsOf x).length = z := by
          unfold rd at hx
          split at hx
          · have hz1 : z = 1 := by rcases hag with h | h; cases h; exact h
            subst hz1
            rw [nth_eq] at hx
            cases cs with
            | nil => simp at hx
            | cons c cs =>
              simp at hx; subst hx
              rw [one_cells (h1 _ (by simp))]; simp
          · simp only [tk_eq, dr_eq, List.drop_zero] at hx
            split at hx
            · rename_i hb
              rw [len_eq] at hb
              injection hx with hx; subst hx
              exact ⟨rfl, Nat.eq_of_beq_eq_true hb⟩
            · cases hx
        have hle : z ≤ cs.length := by
          have := hx'.2; rw [hx'.1, List.length_take] at this; omega
        have e1 : (n + 1) * z = z + n * z := by rw [Nat.succ_mul]; omega
        have e2 : cs.take (z + n * z) = cs.take z ++ (cs.drop z).take (n * z) := by
          rw [List.take_add]
        refine ⟨?_, by simp [i2], ?_, ?_⟩
        · simp only [flat]; rw [i1, e1, hx'.1, e2]
        · intro y hy
          rcases List.mem_cons.1 hy with rfl | hy
          · exact hx'.2
          · exact i3 y hy
        · simp at i4; omega
      · cases h
    · cases h
/-- a new slice -/
theorem makes_sl {heap : Bool} {u z id n rcap : Nat} {xs : List AV} {xc : Option Nat} {arr : Array Value} {et : TypeId} {lo hi : Nat} {vs : List Value} {w' : World} {r : Result Next} (h : SR U ρ B w0 G s w) (hp : Pend G s (.sl heap u z xs xc) id)
    (hz : 0 < z) (hel : ∀ x ∈ xs, (cellsOf x).length = z) (hn : xs.length = n) (hv : VRs ρ G w (flat xs) vs) (h1 : ones (flat xs)) (c : Chg0 w w') (hsz : w.heap.size < w'.heap.size) (hw : w'.heap[w.heap.size]? = some (.cells arr et (lo, hi)))
    (hpre : ∀ (j : Nat) (v : Value), vs[j]? = some v → arr[j]? = some v) (hlh : hi ≤ lo ∨ arr.size ≤ lo) (hhi : heap = false → hi = 0) (hcap : n ≤ rcap) (htot : rcap * z ≤ arr.size) (hxc : ∀ c, xc = some c → rcap = c) (hu : u = 1 → et = U)
    (hr : r = .ok (.value (.slice (some ⟨w.heap.size, 0, none⟩) n rcap)) w') : Makes U ρ B w0 G s w (.sl heap u z xs xc) id r := by
  subst hn
  have hvl := hv.length
  rw [flat_length hel] at hvl
  have hle : xs.length * z ≤ arr.size := Nat.le_trans (Nat.mul_le_mul_right _ hcap) htot
  cases heap
  · obtain ⟨hid, hpar, T, hT, hTl⟩ := hp
    rw [len_eq] at hTl
    let m : Imm := { z := z, tok := id, c0 := 0, filled := xs.length, total := arr.size }
    have him : IM U B s w' w.heap.size m := {
      z := hz
      fit := hle
      blk := ⟨arr, et, lo, hi, hw, rfl, by have := hhi rfl; omega, fun ht => hu (by rw [← hpar]; exact ht)⟩
      top := ⟨T, hT, by show 0 + xs.length ≤ T; omega⟩
      tok := hid
      base := h.le }
    refine ⟨_, w', G.row w.heap.size m, hr, h.row c (Nat.le_refl _) him, Ext.row h c (Nat.le_refl _), ?_, fun b hb => .inl hb⟩
    have hio : (G.row w.heap.size m).im w.heap.size = some m := by simp [Gh.row]
    have key := VR.vsl (ρ := ρ) (G := G.row w.heap.size m) (w := w') z id 0 w.heap.size rcap 0 xc xs vs m hio rfl rfl (Nat.le_refl _) (by show 0 - 0 + xs.length ≤ xs.length; omega) hel (hv.ext (Ext.row h c (Nat.le_refl _))) h1
      (by
        intro j v hj
        have := hpre j v hj
        simp [World.cell?, hw]
        simpa [m] using this) hcap hxc (by show (0 - 0 + rcap) * z ≤ arr.size; simpa using htot) (fun _ => by show 0 = (0 - 0) * z; simp)
    exact key
  · obtain ⟨hlt, hio, hg⟩ := hp
    refine makes_own h c hsz hio hlt rfl hr (fun o ho => ?_) ?_
    · rw [hg] at ho; injection ho with ho; subst ho
      exact OR.fresh (vs := vs) hw hpre (by omega) hlh (hv.ext (Ext.own h c hio)) h1
    · show VR ρ (G.own id w.heap.size) w' (.ref (.hsl z id 0 (len xs) (len xs))) _
      rw [len_eq]
      exact .hsl z id 0 xs.length xs.length w.heap.size rcap et arr.size 0 (own_io _ _ _) hz (Nat.le_refl _) hcap (by simp [World.shape?, hw]) (by omega) (fun _ => rfl)
theorem rep_length {z : List AV} : ∀ n, (rep n z).length = n * z.length
  | 0 => by simp [rep]
  | n + 1 => by simp [rep, rep_length n]; rw [Nat.succ_mul]; omega
theorem VRs.rep {z : List AV} {zs : List Value} (h : VRs ρ G w z zs) : ∀ n, VRs ρ G w (rep n z) (List.replicate n zs).flatten
  | 0 => by simpa [Den.rep] using VRs.nil
  | n + 1 => by simpa [Den.rep, List.replicate_succ] using h.append (VRs.rep h n)
theorem ones_rep {z : List AV} (h : ones z) : ∀ n, ones (rep n z)
  | 0 => by intro x hx; simp [rep] at hx
  | n + 1 => by simp only [rep]; exact ones_append.2 ⟨h, ones_rep h n⟩
theorem flatten_get {zs : List Value} : ∀ (n j : Nat), j < n * zs.length → (List.replicate n zs).flatten[j]? = zs[j % zs.length]?
  | 0, j, h => by simp at h
  | n + 1, j, h => by
    rw [Nat.succ_mul] at h
    rw [List.replicate_succ, List.flatten_cons]
    by_cases hj : j < zs.length
    · rw [List.getElem?_append_left hj, Nat.mod_eq_of_lt hj]
    · have hz : 0 < zs.length := by
        rcases Nat.eq_zero_or_pos zs.length with h0 | h0
        · rw [h0] at h; simp at h
        · exact h0
      rw [List.getElem?_append_right (by omega), flatten_get n (j - zs.length) (by omega)]
      congr 1
      rw [Nat.mod_eq_sub_mod (a := j) (by omega)]
theorem flatten_len {zs : List Value} (n : Nat) : (List.replicate n zs).flatten.length = n * zs.length := by
  simp
theorem range_rep (zs : Array Value) (n : Nat) : (Array.range (n * zs.size)).map (fun j => zs[j % zs.size]!) = (List.replicate n zs.toList).flatten.toArray := by
  apply Array.ext_getElem?
  intro j
  have e1 : ((List.replicate n zs.toList).flatten.toArray)[j]? = (List.replicate n zs.toList).flatten[j]? := by simp
  rw [e1]
  by_cases hj : j < n * zs.size
  · rw [flatten_get n j (by simpa using hj)]
    have hz : 0 < zs.size := by
      rcases Nat.eq_zero_or_pos zs.size with h0 | h0
      · rw [h0] at hj; simp at hj
      · exact h0
    have hm : j % zs.size < zs.size := Nat.mod_lt _ hz
    simp [hj, hm, getElem!_pos]
  · rw [Array.getElem?_eq_none (by simp; omega), List.getElem?_eq_none (by rw [flatten_len]; simp; omega)]
theorem elemZ_ok {el : TypeId} {zc : List AV} (h : elemZ P el = some zc) : ∃ i rz, P.info? el = some i ∧ i.zero = some rz ∧ i.size = zc.length ∧ rz.cells.size = i.size ∧ ones zc ∧ ∀ (ρ : Vl) (G : Gh) (w : World), VRs ρ G w zc rz.cells.toList := by
  unfold elemZ at h
  split at h
  · rename_i z n hz hn
    split at h
    · rename_i hl
      injection h with h; subst h
      obtain ⟨i, rz, hi, hz', hzv, hz1⟩ := tyZero_ok hz
      simp [tySz, hi] at hn
      have := (hzv Vl.zero ⟨fun _ => none, fun _ => none⟩ default).size
      exact ⟨i, rz, hi, hz', by omega, by omega, hz1.1, fun ρ G w => ((hzv ρ G w).cells hz1.2).1⟩
    · cases h
  · cases h
theorem elemSh_ok {el : TypeId} {ag : Bool} {z : Nat} (h : elemSh P el = some (ag, z)) : tyAg P el = some ag ∧ tySz P el = some z ∧ 0 < z ∧ (ag = true ∨ z = 1) := by
  unfold elemSh at h
  split at h
  · rename_i z' h1 h2
    injection h with h
    simp only [Prod.mk.injEq] at h
    obtain ⟨rfl, rfl⟩ := h
    exact ⟨h1, h2, by omega, .inl rfl⟩
  · rename_i h1 h2
    injection h with h
    simp only [Prod.mk.injEq] at h
    obtain ⟨rfl, rfl⟩ := h
    exact ⟨h1, h2, by omega, .inr rfl⟩
  · cases h
theorem flagU_le (el : TypeId) : flagU U el ≤ 1 := by unfold flagU; split <;> omega
theorem flagU_one {el : TypeId} (h : flagU U el = 1) : el = U := by
  unfold flagU at h; split at h
  · assumption
  · cases h
end
end Den

set_option autoImplicit false
set_option linter.unusedVariables false
set_option linter.unusedSimpArgs false
namespace Den
open Go Go.RowKit
section
variable {ρ : Vl} {G : Gh} {w w0 : World} {P : Program} {U : TypeId} {e : Env} {a : Act} {B : Nat} {s : St}
theorem exec_of {o : Oper} {sm : Sem Value} {rv : Value} {w' : World} (ho : execOp a.eval o = (do pure (.value (← sm)) : Sem Next)) (hs : sm.run P w = .ok rv w') : (execOp a.eval o).run P w = .ok (.value rv) w' := by
  rw [ho, Sem.run_bind, hs]; rfl
def fP (z : Nat) (l : List (Nat × Opd)) : List (Nat × Nat × Opd) := l.map fun p => (p.1 * z, z, p.2)
theorem fillE_eq (e : Env) (z : Nat) : ∀ (l : List (Nat × Opd)) (cs : List AV), fillE e z cs l = fillP e cs (fP z l)
  | [], cs => rfl
  | (i, x) :: l, cs => by
    simp only [fillE, fP, List.map_cons, fillP]
    split
    · split
      · split
        · exact fillE_eq e z l _
        · rfl
      · rfl
    · rfl
theorem cElems_ok {z : Nat} : ∀ {l : List (Nat × Operand)} {ps : List (Nat × Opd)}, cElems l = some ps → (∀ p ∈ l, ∀ ox, cOpd p.2 = some ox → VR ρ G w (ox.ev e) (a.eval p.2)) →
    PR ρ G w e (fun i => some (i * z, z)) (fP z ps) (l.map fun p => (p.1, a.eval p.2))
  | [], ps, h, _ => by simp [cElems] at h; subst h; exact .nil
  | (i, x) :: l, ps, h, hr => by
    simp only [cElems, Option.bind_eq_bind, Option.bind_eq_some_iff, Option.pure_def, Option.some.injEq] at h
    obtain ⟨o, h1, r, h2, rfl⟩ := h
    exact .cons _ _ _ _ _ _ _ rfl (hr (i, x) (by simp) o h1) (cElems_ok h2 fun p hp => hr p (by simp [hp]))
theorem a_alloc {dst : Option Nat} {type : TypeId} {pos : String} {aft : Array Edge} {g : Option (Nat × Bool)} {t : TypeId} {z : AV} {m : Made} {id : Nat} (hs : SR U ρ B w0 G s w) (hz : tyZero P t = some z) (hm : made e (.alloc (cellsOf z)) = some m) (hp : Pend G s m id) :
    Makes U ρ B w0 G s w m id ((execOp a.eval ⟨dst, .alloc t, type, pos, aft, g⟩).run P w) := by
  simp only [made] at hm; injection hm with hm; subst hm
  obtain ⟨i, rz, hi, hz', hzv, hz1⟩ := tyZero_ok hz
  refine makes_cells hs hp ((hzv ρ G w).cells hz1.2).1 hz1.1 (exec_of (sm := Instr.alloc t true (.tuple #[])) rfl ?_) (et := t)
  simp [Instr.alloc, zeroValue, typeInfo, hi, hz', newVar, newRow]
theorem a_allocT {dst : Option Nat} {type : TypeId} {pos : String} {aft : Array Edge} {g : Option (Nat × Bool)} {t : TypeId} {z : AV} {m : Made} {id : Nat} (hs : SR U ρ B w0 G s w) (hz : tyZero P t = some z) (hm : made e (.allocT t (cellsOf z)) = some m) (hp : Pend G s m id) :
    Makes U ρ B w0 G s w m id ((execOp a.eval ⟨dst, .alloc t, type, pos, aft, g⟩).run P w) := by
  simp only [made] at hm; injection hm with hm; subst hm
  obtain ⟨i, rz, hi, hz', hzv, hz1⟩ := tyZero_ok hz
  refine makes_cellsT hs hp ((hzv ρ G w).cells hz1.2).1 hz1.1 (exec_of (sm := Instr.alloc t true (.tuple #[])) rfl ?_)
  simp [Instr.alloc, zeroValue, typeInfo, hi, hz', newVar, newRow]
theorem a_box {dst : Option Nat} {type : TypeId} {pos : String} {aft : Array Edge} {g : Option (Nat × Bool)} {t : TypeId} {n : Nat} {x : Operand} {ox : Opd} {m : Made} {id : Nat} (hs : SR U ρ B w0 G s w) (hx : VR ρ G w (ox.ev e) (a.eval x)) (hm : made e (.box n ox) = some m) (hp : Pend G s m id) :
    Makes U ρ B w0 G s w m id ((execOp a.eval ⟨dst, .box t x, type, pos, aft, g⟩).run P w) := by
  simp only [made] at hm
  split at hm
  · rename_i cs hq
    injection hm with hm; subst hm
    obtain ⟨rfl, hnt⟩ := cellsQ_some hq
    obtain ⟨h1, h2⟩ := hx.cells hnt
    refine makes_cells hs hp h1 h2 (exec_of (sm := Instr.box t (a.eval x)) rfl ?_) (et := t)
    simp [Instr.box, newVar, newRow]
  · cases hm
theorem a_mkm {dst : Option Nat} {type : TypeId} {pos : String} {aft : Array Edge} {g : Option (Nat × Bool)} {t : TypeId} {m : Made} {id : Nat} (hs : SR U ρ B w0 G s w) (hm : made e .mkm = some m) (hp : Pend G s m id) :
    Makes U ρ B w0 G s w m id ((execOp a.eval ⟨dst, .makeMap t none, type, pos, aft, g⟩).run P w) := by
  simp only [made] at hm; injection hm with hm; subst hm
  exact makes_map hs hp (exec_of (sm := Instr.makeMap t none) rfl (by simp [Instr.makeMap]))
theorem a_bsl {dst : Option Nat} {type : TypeId} {pos : String} {aft : Array Edge} {g : Option (Nat × Bool)} {t el : TypeId} {heap ag : Bool} {z n : Nat} {zc : List AV} {parts : Array (Nat × Operand)} {ps : List (Nat × Opd)} {m : Made} {id : Nat} (hs : SR U ρ B w0 G s w)
    (hu : P.underlying t = some (.slice el)) (hsh : elemSh P el = some (ag, z)) (hz : elemZ P el = some zc) (hle : n * z ≤ 16777216) (hps : cElems parts.toList = some ps) (hr : ∀ p ∈ parts.toList, ∀ ox, cOpd p.2 = some ox → VR ρ G w (ox.ev e) (a.eval p.2))
    (hm : made e (.bsl heap ag (flagU U el) z n zc ps) = some m) (hp : Pend G s m id) :
    Makes U ρ B w0 G s w m id ((execOp a.eval ⟨dst, .buildSlice t n parts, type, pos, aft, g⟩).run P w) := by
  simp only [made] at hm
  split at hm
  · rename_i cs hf
    split at hm
    · rename_i xs hx
      injection hm with hm; subst hm
      obtain ⟨ha, hn, hzp, hag⟩ := elemSh_ok hsh
      obtain ⟨i, rz, hi, hz', hzl, hzs, hzo, hzv⟩ := elemZ_ok hz
      have hiz : i.size = z := by simpa [tySz, hi] using hn
      rw [fillE_eq] at hf
      have hrep := (hzv ρ G w).rep n
      obtain ⟨vs, f1, f2, f3⟩ := fill_ok (cElems_ok (z := z) hps hr) hrep (ones_rep hzo n) hf
      obtain ⟨e1, e2, e3, e4⟩ := elems_ok hzp hag hx f3
      have hlen : cs.length = n * z := by
        have := f2.length
        have q : ∀ {ps : List (Nat × Nat × Opd)} {cs r : List AV}, fillP e cs ps = some r → r.length = cs.length := by
          intro ps
          induction ps with
          | nil => intro cs r h; simp [fillP] at h; rw [h]
          | cons p ps ih =>
            intro cs r h
            obtain ⟨o, k, x⟩ := p
            simp only [fillP] at h
            split at h
            · split at h
              · split at h
                · rename_i hsa
                  obtain ⟨g1, g2⟩ := setAt_eq hsa
                  rw [ih h, g2]; simp; omega
                · cases h
              · cases h
            · cases h
        rw [q hf, rep_length]; congr 1; omega
      have hfx : flat xs = cs := by rw [e1, List.take_of_length_le (by omega)]
      have hvl := f2.length
      have hsm : ¬ (n * i.size > 2 ^ 24) := by rw [hiz]; omega
      have e5 : (parts.map fun (i, x) => (i, a.eval x)).toList = parts.toList.map fun p => (p.1, a.eval p.2) := by simp
      have hrun : (Instr.buildSlice t n (parts.map fun (i, x) => (i, a.eval x))).run P w = .ok (.slice (some ⟨w.heap.size, 0, none⟩) n n) (w.alloc (.cells vs.toArray el)) := by
        have hrr : (Array.range (n * rz.cells.size)).map (fun j => rz.cells[j % rz.cells.size]!) = (List.replicate n rz.cells.toList).flatten.toArray := range_rep _ _
        by_cases h0 : n * i.size = 0
        · have hn0 : n = 0 := by
            rcases Nat.mul_eq_zero.1 h0 with h | h
            · exact h
            · omega
          subst hn0
          have f1' : Instr.fill (fun j => some (j * i.size, i.size)) #[] (parts.toList.map fun p => (p.1, a.eval p.2)) = some vs.toArray := by rw [hiz]; simpa using f1
          simp [Instr.buildSlice, run_underlying hu, Go.sizeOf, typeInfo, hi, newRow]
          have h0a : Array.map (fun _ : Nat => (default : Value)) (Array.range 0) = #[] := by simp
          rw [h0a, f1']
          simp
        · exact run_buildSlice w t el n _ vs.toArray i rz hu hi hz' hsm h0 (by rw [e5]; simp only [hzs] at hrr ⊢; rw [hrr, hiz]; exact f1)
      refine makes_sl (n := n) (rcap := n) (arr := vs.toArray) (et := el) (lo := 0) (hi := 0) (vs := vs) (w' := w.alloc (.cells vs.toArray el)) hs hp hzp e3 e2 (by rw [hfx]; exact f2) (by rw [hfx]; exact f3) (Chg0.alloc w _) (by simp) (heap_new w _) (fun j v hj => by simpa using hj) (.inl (Nat.le_refl _)) (fun _ => rfl) (Nat.le_refl _) (by simp; omega) (fun c hc => by injection hc) flagU_one (exec_of rfl hrun)
    · cases hm
  · cases hm
theorem wrap_nat {n : Nat} (h : n ≤ 16777216) : IntKind.i64.wrap (n : Int) = n := IntWalk.i64_in _ ⟨by omega, by omega⟩
theorem fits_ok {el : TypeId} (h : fits P el = some ()) : ∃ i, P.info? el = some i ∧ i.bytes ≤ 65536 := by
  unfold fits at h
  split at h
  · rename_i i hi
    split at h
    · rename_i hb; exact ⟨i, hi, hb⟩
    · cases h
  · cases h
theorem a_mks {dst : Option Nat} {type : TypeId} {pos : String} {aft : Array Edge} {g : Option (Nat × Bool)} {t el : TypeId} {heap ag : Bool} {z : Nat} {zc : List AV} {l c : Operand} {ol oc : Opd} {m : Made} {id : Nat} (hs : SR U ρ B w0 G s w)
    (hl : VR ρ G w (ol.ev e) (a.eval l)) (hc : VR ρ G w (oc.ev e) (a.eval c)) (hu : P.underlying t = some (.slice el)) (hfit : fits P el = some ()) (hsh : elemSh P el = some (ag, z)) (hz : elemZ P el = some zc)
    (hm : made e (.mks heap ag (flagU U el) z zc ol oc) = some m) (hp : Pend G s m id) :
    Makes U ρ B w0 G s w m id ((execOp a.eval ⟨dst, .makeSlice t l c, type, pos, aft, g⟩).run P w) := by
  simp only [made] at hm
  split at hm
  · rename_i n c' h1 h2
    split at hm
    · rename_i hb1 hb2
      have hnc := Nat.eq_of_beq_eq_true hb1
      subst hnc
      have hn24 := Nat.le_of_ble_eq_true hb2
      split at hm
      · rename_i xs hx
        injection hm with hm; subst hm
        obtain ⟨kl, hl'⟩ := natV_ok hl h1
        obtain ⟨kc, hc'⟩ := natV_ok hc h2
        obtain ⟨ha, hn, hzp, hag⟩ := elemSh_ok hsh
        obtain ⟨i, rz, hi, hz', hzl, hzs, hzo, hzv⟩ := elemZ_ok hz
        obtain ⟨i', hi', hby⟩ := fits_ok hfit
        rw [hi] at hi'; injection hi' with hi'; subst hi'
        have hiz : i.size = z := by simpa [tySz, hi] using hn
        have hrep := (hzv ρ G w).rep n
        obtain ⟨e1, e2, e3, e4⟩ := elems_ok hzp hag hx (ones_rep hzo n)
        have hrl := rep_length (z := zc) n
        have hfx : flat xs = rep n zc := by rw [e1, List.take_of_length_le (by rw [hrl, ← hzl, hiz]; exact Nat.le_refl _)]
        have hbytes : (i.bytes : Int) * (n : Int) ≤ 281474976710656 := by
          have : i.bytes * n ≤ 65536 * 16777216 := Nat.mul_le_mul hby hn24
          have h' : ((i.bytes * n : Nat) : Int) ≤ 281474976710656 := by omega
          rwa [Int.natCast_mul] at h'
        have hrun := run_make (P := P) w t el i rz hu hi hz' kl kc n n (by omega) (Int.le_refl _) hbytes (by omega)
        have hmade : madeCells rz.cells ((n : Int).toNat * i.size) = (List.replicate n rz.cells.toList).flatten.toArray := by
          rw [← range_rep]; unfold madeCells; simp [hzs]
        rw [hmade] at hrun
        simp only [Int.toNat_natCast] at hrun
        refine makes_sl (n := n) (rcap := n) (arr := (List.replicate n rz.cells.toList).flatten.toArray) (et := el) (lo := 0) (hi := 0) (vs := (List.replicate n rz.cells.toList).flatten) hs hp hzp e3 e2 (by rw [hfx]; exact hrep) (by rw [hfx]; exact ones_rep hzo n) (Chg0.alloc w _) (by simp) (heap_new w _) (fun j v hj => by simpa using hj) (.inl (Nat.le_refl _)) (fun _ => rfl) (Nat.le_refl _) (by simp; rw [hzs, hiz]; exact Nat.le_refl _) (fun c hc => by injection hc) flagU_one (exec_of (sm := Instr.makeSlice t (a.eval l) (a.eval c)) rfl (by rw [hl', hc']; exact hrun))
      · cases hm
    · cases hm
  · cases hm
theorem ofBytes_flat : ∀ (l : List Nat), flat (ofBytes l) = ofBytes l ∧ (∀ x ∈ ofBytes l, (cellsOf x).length = 1) ∧ ones (ofBytes l) ∧ (ofBytes l).length = l.length
  | [] => ⟨rfl, by simp [ofBytes], by intro x hx; simp [ofBytes] at hx, rfl⟩
  | n :: l => by
    obtain ⟨h1, h2, h3, h4⟩ := ofBytes_flat l
    refine ⟨by simp [ofBytes, flat, cellsOf, h1], ?_, ?_, by simp [ofBytes, h4]⟩
    · intro x hx
      simp only [ofBytes, List.mem_cons] at hx
      rcases hx with rfl | hx
      · rfl
      · exact h2 x hx
    · intro x hx
      simp only [ofBytes, List.mem_cons] at hx
      rcases hx with rfl | hx
      · rfl
      · exact h3 x hx
theorem ofBytes_VRs : ∀ {l : List Nat} {bs : List UInt8}, Bs ρ l bs → VRs ρ G w (ofBytes l) (bs.map fun b => Value.int .u8 b.toNat)
  | [], bs, h => by
    have := h.length
    have : bs = [] := List.eq_nil_of_length_eq_zero this
    subst this; exact .nil
  | n :: l, bs, h => by
    obtain ⟨b, t, rfl, h1, h2⟩ := h.uncons
    exact .cons _ _ _ _ (VR.intE h1) (ofBytes_VRs h2)
theorem a_cvtb {dst : Option Nat} {type : TypeId} {pos : String} {aft : Array Edge} {g : Option (Nat × Bool)} {t t' el : TypeId} {x : Operand} {ox : Opd} {m : Made} {id : Nat} (hs : SR U ρ B w0 G s w)
    (hx : VR ρ G w (ox.ev e) (a.eval x)) (ht : P.underlying t = some .string) (hu : P.underlying t' = some (.slice el)) (he : P.underlying el = some (.int .u8)) (hm : made e (.cvtb ox) = some m) (hp : Pend G s m id) :
    Makes U ρ B w0 G s w m id ((execOp a.eval ⟨dst, .convert t t' x, type, pos, aft, g⟩).run P w) := by
  simp only [made] at hm
  split at hm
  · rename_i l hq
    injection hm with hm; subst hm
    rw [hq] at hx
    generalize hr : a.eval x = rv at hx
    cases hx with
    | str _ sb hsb =>
      obtain ⟨o1, o2, o3, o4⟩ := ofBytes_flat l
      have hrun := run_bytes_of_string (P := P) w t t' el sb ht hu he
      have hge := grownCap_ge w sb.size 0 el
      have hbs : (bytesRow sb (grownCap w sb.size 0 el)).size = grownCap w sb.size 0 el := by
        have : sb.data.size = sb.size := rfl
        simp [bytesRow, this]; omega
      have hls : l.length = sb.size := by rw [← hsb.length]; simp
      refine makes_sl (n := sb.size) (rcap := grownCap w sb.size 0 el) (vs := sb.data.toList.map fun b => Value.int .u8 b.toNat) hs hp (by omega) (by intro x hx; exact o2 x hx) (by rw [o4, hls]) (by rw [o1]; exact ofBytes_VRs hsb) (by rw [o1]; exact o3) ((Chg0.drew w).trans (Chg0.alloc w.drew _)) (by simp) (heap_new w.drew _) ?_ (.inr (Nat.le_refl _)) (fun h => by cases h) hge (by rw [hbs]; omega) (fun c hc => by cases hc) (fun h => by cases h) (exec_of (sm := convert t t' (a.eval x)) rfl (by rw [hr]; exact hrun))
      intro j v hj
      unfold bytesRow
      have hlt : j < sb.data.size := by
        have := (List.getElem?_eq_some_iff.1 hj).1
        simpa using this
      rw [Array.getElem?_append_left (by simpa using hlt)]
      simpa using hj
  · cases hm
theorem evA_real {heap : Bool} {o : Oper} {q : AOp} (hc : comp P U heap o = some (.a q)) (hr : Rd ρ G w e a o) (hs : SR U ρ B w0 G s w) {m : Made} (hm : made e q = some m) {id : Nat} (hp : Pend G s m id) :
    Makes U ρ B w0 G s w m id ((execOp a.eval o).run P w) := by
  obtain ⟨dst, op, type, pos, aft, g⟩ := o
  have hr' : ∀ x ∈ op.operands, ∀ ox, cOpd x = some ox → VR ρ G w (ox.ev e) (a.eval x) := hr
  cases op <;> simp only [comp, Option.bind_eq_bind, Option.bind_eq_some_iff, Option.pure_def, Option.some.injEq, reduceCtorEq, and_false, exists_false, K.a.injEq] at hc <;> simp only [Op.operands] at hr'
  case alloc t =>
    obtain ⟨z, hz, rfl⟩ := hc
    cases hb : isBld P t
    · rw [hb] at hm; exact a_alloc hs hz hm hp
    · rw [hb] at hm; exact a_allocT hs hz hm hp
  case box t x =>
    obtain ⟨n, hn, ox, hx, rfl⟩ := hc
    exact a_box hs (hr' x (by simp) _ hx) hm hp
  case makeMap t r =>
    cases r with
    | some r => cases hc
    | none =>
      injection hc with hc; injection hc with hc; subst hc
      exact a_mkm hs hm hp
  case buildSlice t n parts =>
    obtain ⟨el, he, ⟨ag, z⟩, hsh, hc⟩ := hc
    split at hc
    · cases hc
    rename_i hle
    simp only [Option.bind_eq_some_iff, Option.some.injEq, reduceCtorEq, and_false, exists_false, K.a.injEq] at hc
    obtain ⟨zc, hz, ps, hps, rfl⟩ := hc
    have hu : P.underlying t = some (.slice el) := by
      unfold elemOfS at he; split at he
      · injection he with he; subst he; assumption
      · cases he
    have hle' : n * z ≤ 16777216 := by simp only at hle; omega
    exact a_bsl hs hu hsh hz hle' hps (fun q hq => hr' q.2 (List.mem_toArray.2 (List.mem_map.2 ⟨q, hq, rfl⟩))) hm hp
  case makeSlice t l c =>
    obtain ⟨el, he, u, hfit, ⟨ag, z⟩, hsh, zc, hz, ol, hl, oc, hcc, rfl⟩ := hc
    have hu : P.underlying t = some (.slice el) := by
      unfold elemOfS at he; split at he
      · injection he with he; subst he; assumption
      · cases he
    exact a_mks hs (hr' l (by simp) _ hl) (hr' c (by simp) _ hcc) hu hfit hsh hz hm hp
  case convert t t' x =>
    split at hc
    · simp only [Option.bind_eq_some_iff, Option.some.injEq, reduceCtorEq, and_false, exists_false, K.a.injEq] at hc
    · simp only [Option.bind_eq_some_iff, Option.some.injEq, reduceCtorEq, and_false, exists_false, K.a.injEq] at hc
    · split at hc
      · simp only [Option.bind_eq_some_iff, Option.some.injEq, reduceCtorEq, and_false, exists_false, K.a.injEq] at hc
      · cases hc
    · rename_i el ht hu
      split at hc
      · rename_i he
        split at hc
        · simp only [Option.bind_eq_some_iff, Option.some.injEq, reduceCtorEq, and_false, exists_false, K.a.injEq] at hc
          obtain ⟨ox, hx, rfl⟩ := hc
          exact a_cvtb hs (hr' x (by simp) _ hx) ht hu he hm hp
        · cases hc
      · cases hc
    · cases hc
  case fieldAddr t x i =>
    obtain ⟨_, _, _, _, _, _, hc⟩ := hc
    split at hc
    · cases hc
    · simp only [Option.bind_eq_some_iff, Option.some.injEq, reduceCtorEq, and_false, exists_false, K.a.injEq] at hc
  case next it b =>
    cases b
    · simp only [Option.bind_eq_bind, Option.pure_def] at hc; simp only [Option.bind_eq_some_iff, Option.some.injEq, reduceCtorEq, and_false, exists_false, K.a.injEq] at hc
    · cases hc
  case call c =>
    obtain ⟨callee, args, ats⟩ := c
    cases callee with
    | value f => simp only [Option.bind_eq_some_iff, Option.some.injEq, reduceCtorEq, and_false, exists_false, K.a.injEq] at hc
    | invoke r m => cases hc
    | builtin b =>
      simp only [Option.bind_eq_some_iff] at hc
      obtain ⟨as, has, hc⟩ := hc
      split at hc
      · simp only [Option.bind_eq_some_iff, Option.some.injEq, reduceCtorEq, and_false, exists_false, K.a.injEq] at hc
        obtain ⟨_, _, _, _, _, _, _, _, hc⟩ := hc
        split at hc <;> cases hc
      · split at hc
        · cases hc
        · split at hc <;> cases hc
        · cases hc
        · cases hc
        · cases hc
        · cases hc
      · cases hc
      · cases hc
      · split at hc
        · simp only [Option.bind_eq_some_iff, Option.some.injEq, reduceCtorEq, and_false, exists_false, K.a.injEq] at hc
        · cases hc
      · simp only [Option.bind_eq_some_iff, Option.some.injEq, reduceCtorEq, and_false, exists_false, K.a.injEq] at hc
      · cases hc
      · split at hc
        · split at hc <;> cases hc
        · cases hc
      · cases hc
  all_goals first
    | (cases hc; done)
    | (exfalso; revert hc; first | (split <;> simp [Option.bind_eq_some_iff]; done) | (split <;> (try split) <;> simp [Option.bind_eq_some_iff]; done) | (simp [Option.bind_eq_some_iff]; done))
    | skip
end
end Den

set_option autoImplicit false
set_option linter.unusedVariables false
set_option linter.unusedSimpArgs false
namespace Den
open Go Go.RowKit
/-- at most one block is changed -/
structure ChgAt (w w' : World) (rb : Nat) : Prop where
  obj : ∀ b, b < w.heap.size → b ≠ rb → w'.heap[b]? = w.heap[b]?
  size : w.heap.size ≤ w'.heap.size
  os : w'.os = w.os
  tape : w'.tape = w.tape
  output : w'.output = w.output
  shape : ∀ et n, w.shape? rb = some (et, n) → w'.shape? rb = some (et, n)
theorem setCells_obj {r b : Nat} (h : r ≠ b) : ∀ (vs : List Value) (o : Nat) (w : World), (w.setCells b o vs).heap[r]? = w.heap[r]?
  | [], o, w => rfl
  | v :: vs, o, w => by rw [World.setCells, setCells_obj h vs, Below.heap_setCell _ _ _ _ h]
theorem setCell_shape (w : World) (b o : Nat) (v : Value) (r : Nat) : (w.setCell ⟨b, o, none⟩ v).shape? r = w.shape? r := by
  simp only [World.shape?, World.setCell, Array.getElem?_modify]
  by_cases h : b = r
  · subst h
    simp only [if_true]
    cases w.heap[b]? with
    | none => rfl
    | some ob => cases ob <;> simp
  · rw [if_neg h]
theorem setCells_chg (b : Nat) : ∀ (vs : List Value) (o : Nat) (w : World), ChgAt w (w.setCells b o vs) b
  | [], o, w => ⟨fun _ _ _ => rfl, Nat.le_refl _, rfl, rfl, rfl, fun _ _ h => h⟩
  | v :: vs, o, w => by
    have ih := setCells_chg b vs (o + 1) (w.setCell ⟨b, o, none⟩ v)
    refine ⟨fun r hr hne => setCells_obj hne (v :: vs) o w, ?_, ih.os.trans rfl, ih.tape.trans rfl, ih.output.trans rfl, fun et n h => ih.shape et n (by rw [setCell_shape]; exact h)⟩
    have := ih.size
    simp only [World.size_setCell] at this
    exact this
section
variable {ρ : Vl} {G : Gh} {w w' w0 : World} {P : Program} {U : TypeId} {e : Env} {a : Act} {B : Nat} {s : St}
theorem ChgAt.cell {rb : Nat} (c : ChgAt w w' rb) (b o : Nat) (h : b < w.heap.size) (hb : b ≠ rb) : w'.cell? ⟨b, o, none⟩ = w.cell? ⟨b, o, none⟩ := World.cell?_of_block (w := w) (c.obj b h hb)
theorem ChgAt.ext {rb b : Nat} {o : AObj} (h : SR U ρ B w0 G s w) (hb : G.io b = some rb) (hg : s.blk.get b = some o) (c : ChgAt w w' rb) : Ext G w G w' where
  io _ _ e := e
  im _ m e := ⟨m, e, rfl, rfl, rfl, rfl, Nat.le_refl _⟩
  cell r m o' hm _ := by
    refine c.cell r o' (im_lt h hm) ?_
    rintro rfl
    rw [h.apart b o r hg hb] at hm; cases hm
  shape r et n hs := by
    by_cases hr : r = rb
    · subst hr; exact c.shape et n hs
    · have := c.obj r (shape_lt hs) hr
      simp only [World.shape?] at hs ⊢
      rw [this]; exact hs
theorem OR.chgAt {o : AObj} {r rb : Nat} (h : OR ρ G w o r) (c : ChgAt w w' rb) (x : Ext G w G w') (hlt : r < w.heap.size) (hne : r ≠ rb) : OR ρ G w' o r := by
  cases h with
  | cells cs _ vs et size h h1 hc hs hl hf =>
    refine .cells cs r vs et size (h.ext x) h1 (fun j v hj => by rw [c.cell r _ hlt hne]; exact hc j v hj) (x.shape _ _ _ hs) hl (fun o ho => ?_)
    rw [World.frozen?_of_block (w := w) (c.obj r hlt hne)]; exact hf o ho
  | bld t cs _ vs h h1 hc hs hf =>
    refine .bld t cs r vs (h.ext x) h1 (fun j v hj => by rw [c.cell r _ hlt hne]; exact hc j v hj) (x.shape _ _ _ hs) (fun o ho => ?_)
    have := c.obj r hlt hne
    simp only [World.frozen?] at hf ⊢
    rw [this]; exact hf o ho
  | map es cl _ rs h hw => exact .map es cl r rs (h.ext x) (by rw [c.obj r hlt hne]; exact hw)
  | miter m since seen last _ rm hm hw =>
    refine .miter m since seen last r rm ?_ (by rw [c.obj r hlt hne]; exact hw)
    rcases hm with hm | ⟨b, r, h1, h2, h3⟩
    · exact .inl hm
    · exact .inr ⟨b, r, h1, h2, x.io _ _ h3⟩
theorem IM.chgAt {rb r : Nat} {m : Imm} (h : IM U B s w r m) (c : ChgAt w w' rb) (hne : r ≠ rb) : IM U B s w' r m := by
  obtain ⟨et, hs⟩ := h.shape
  exact ⟨h.z, h.fit, by rw [c.obj r (shape_lt hs) hne]; exact h.blk, h.top, h.tok, h.base⟩
/-- a block is changed, in the abstract state and in the world -/
theorem SR.upd {rb b : Nat} {o o' : AObj} (h : SR U ρ B w0 G s w) (hb : G.io b = some rb) (hg : s.blk.get b = some o) (c : ChgAt w w' rb) (ho : OR ρ G w' o' rb) : SR U ρ B w0 G (setBlk s b o') w' ∧ Ext G w G w' ∧ Nxt G s G (setBlk s b o') := by
  have x := ChgAt.ext h hb hg c
  have hbn : b < s.nb := by
    rcases Nat.lt_or_ge b s.nb with h' | h'
    · exact h'
    · rw [(h.new b h').1] at hb; cases hb
  refine ⟨⟨?_, ?_, ?_, h.newt, h.even, ?_, ?_, ?_, ?_, Nat.le_trans h.le c.size⟩, x, ⟨Nat.le_refl _, Nat.le_refl _, fun k hk hi => ⟨hi, ?_⟩, fun t T e => ⟨T, e, Nat.le_refl _⟩⟩⟩
  · intro k q r hq hr
    by_cases hkb : k = b
    · subst hkb
      rw [hb] at hr; injection hr with hr; subst hr
      have : (s.blk.put k o').get k = some q := hq
      rw [Tr.put_same] at this; injection this with this; subst this
      exact ho
    · have hq' : s.blk.get k = some q := by rw [← Tr.put_other s.blk o' hkb]; exact hq
      refine (h.blk k q r hq' hr).chgAt c x (h.lt k r hr).1 ?_
      rintro rfl
      exact hkb (h.inj k b q o r hq' hg hr hb)
  · intro k k' q q' r hq hq' hr hr'
    have get : ∀ {k q}, (setBlk s b o').blk.get k = some q → ∃ q', s.blk.get k = some q' := by
      intro k q hq
      by_cases hkb : k = b
      · subst hkb; exact ⟨o, hg⟩
      · exact ⟨q, by rw [← Tr.put_other s.blk o' hkb]; exact hq⟩
    obtain ⟨_, h1⟩ := get hq
    obtain ⟨_, h2⟩ := get hq'
    exact h.inj k k' _ _ r h1 h2 hr hr'
  · intro k hk
    obtain ⟨h1, h2⟩ := h.new k hk
    refine ⟨h1, ?_⟩
    show (s.blk.put b o').get k = none
    rw [Tr.put_other]; exact h2
    have : s.nb ≤ k := hk
    omega
  · intro k q r hq hr
    by_cases hkb : k = b
    · subst hkb; exact h.apart k o r hg hr
    · exact h.apart k q r (by rw [← Tr.put_other s.blk o' hkb]; exact hq) hr
  · intro r m hm
    refine ((h.im r m hm).chgAt c ?_).top_mono (fun t T e => ⟨T, e, Nat.le_refl _⟩) (Nat.le_refl _)
    rintro rfl
    rw [h.apart b o r hg hb] at hm; cases hm
  · exact fun k r hr => ⟨Nat.lt_of_lt_of_le (h.lt k r hr).1 c.size, (h.lt k r hr).2⟩
  · exact h.below.trans ⟨c.os, c.tape, c.output, c.size, fun k hk => c.obj k (by have := h.le; omega) (by have := (h.lt b rb hb).2; omega)⟩
  · show (s.blk.put b o').get k = s.blk.get k
    rw [Tr.put_other]
    rintro rfl
    rw [hb] at hi; cases hi
/-- what an effect has to do -/
def Does (U : TypeId) (ρ : Vl) (B : Nat) (w0 : World) (G : Gh) (s : St) (w : World) (v : AV) (s' : St) (r : Result Next) : Prop :=
  ∃ nx rv w' G', r = .ok nx w' ∧ (nx = .value rv ∨ (nx = .skip ∧ rv = Go.undef)) ∧ SR U ρ B w0 G' s' w' ∧ Ext G w G' w' ∧ Nxt G s G' s' ∧ VR ρ G' w' v rv
theorem does_skip {sm : Sem Unit} {o : Oper} {s' : St} {w' : World} {G' : Gh} (ho : execOp a.eval o = (do sm; pure .skip : Sem Next)) (hs : sm.run P w = .ok () w') (h : SR U ρ B w0 G' s' w' ∧ Ext G w G' w' ∧ Nxt G s G' s') :
    Does U ρ B w0 G s w (.lst .tup []) s' ((execOp a.eval o).run P w) :=
  ⟨.skip, Go.undef, w', G', by rw [ho, Sem.run_bind, hs]; rfl, .inr ⟨rfl, rfl⟩, h.1, h.2.1, h.2.2, .undef⟩
theorem does_val {sm : Sem Value} {o : Oper} {s' : St} {w' : World} {G' : Gh} {v : AV} {rv : Value} (ho : execOp a.eval o = (do pure (.value (← sm)) : Sem Next)) (hs : sm.run P w = .ok rv w') (h : SR U ρ B w0 G' s' w' ∧ Ext G w G' w' ∧ Nxt G s G' s') (hv : VR ρ G' w' v rv) :
    Does U ρ B w0 G s w v s' ((execOp a.eval o).run P w) :=
  ⟨.value rv, rv, w', G', by rw [ho, Sem.run_bind, hs]; rfl, .inl rfl, h.1, h.2.1, h.2.2, hv⟩
/-- cells are stored -/
theorem store_ok {b rb off : Nat} {cs cs' vs : List AV} {ns : List Value} (h : SR U ρ B w0 G s w) (hb : G.io b = some rb) (hg : cellsAt s b = some cs) (hset : setAt cs off vs = some cs') (hv : VRs ρ G w vs ns) (h1 : ones vs) :
    (storeCells ⟨rb, off, none⟩ ns).run P w = .ok () (w.setCells rb off ns) ∧ SR U ρ B w0 G (setBlk s b (.cells cs')) (w.setCells rb off ns) ∧ Ext G w G (w.setCells rb off ns) ∧ Nxt G s G (setBlk s b (.cells cs')) := by
  obtain ⟨us, et, size, k1, k2, k3, k4, k5, k6⟩ := cellsAt_ok h hg hb
  obtain ⟨q1, q2, q3, q4⟩ := setAt_ok hset k1 hv k2 h1
  obtain ⟨ob, hg'⟩ := cellsAt_blk hg
  have c := setCells_chg rb ns off w
  have x := ChgAt.ext h hb hg' c
  have hthere : ∀ j, j < ns.length → (w.cell? ⟨rb, off + j, none⟩).isSome = true := by
    intro j hj
    have hlt : off + j < us.length := by omega
    have := k3 (off + j) us[off + j] (by simp [hlt])
    rw [Nat.zero_add] at this
    rw [this]; rfl
  refine ⟨?_, h.upd hb hg' c ?_⟩
  · have := run_storeCells_cells (P := P) rb off ns 0 w (by simpa using hthere) (fun j hj => by
      have := k6 (off + j) (by omega)
      simpa using this) (fun v hv' => hv.oneCells h1 v hv')
    simpa using this
  · refine .cells cs' rb (setL us off ns) et size (q1.ext x) q2 ?_ (c.shape _ _ k4) (by rw [setL_length q3]; exact k5) (fun o ho => by rw [World.frozen?_setCells]; exact k6 o ho)
    intro j v hj
    rw [setL_get q3] at hj
    rw [Nat.zero_add]
    by_cases hin : off ≤ j ∧ j < off + ns.length
    · rw [if_pos hin] at hj
      obtain ⟨d, rfl⟩ : ∃ d, j = off + d := ⟨j - off, by omega⟩
      have hd : d < ns.length := by omega
      rw [World.cell?_setCells_in rb ns off w hthere d hd]
      have e1 : off + d - off = d := by omega
      rw [e1, List.getElem?_eq_getElem hd] at hj
      exact hj
    · rw [if_neg hin] at hj
      rw [World.cell?_setCells_out rb ns off w ⟨rb, j, none⟩ (fun _ _ => by simp only; omega)]
      have := k3 j v hj
      rw [Nat.zero_add] at this; exact this
theorem e_st {dst : Option Nat} {type : TypeId} {pos : String} {aft : Array Edge} {g : Option (Nat × Bool)} {t : TypeId} {n : Nat} {p x : Operand} {op ox : Opd} {v : AV} {s' : St} (hs : SR U ρ B w0 G s w) (hp : VR ρ G w (op.ev e) (a.eval p)) (hx : VR ρ G w (ox.ev e) (a.eval x))
    (hn : tySz P t = some n) (h : evE e s (.st n op ox) = some (v, s')) : Does U ρ B w0 G s w v s' ((execOp a.eval ⟨dst, .store t p x, type, pos, aft, g⟩).run P w) := by
  simp only [evE] at h
  generalize op.ev e = y at h hp
  generalize hr : a.eval p = rp at hp
  split at h
  · rename_i b off
    split at h
    · rename_i cs hcs
      split at h
      · rename_i vs hq
        obtain ⟨rfl, hnt⟩ := cellsQ_some hq
        split at h
        · rename_i hb
          rw [len_eq] at hb
          have hlen := Nat.eq_of_beq_eq_true hb
          split at h
          · rename_i cs' hset
            injection h with h
            simp only [Prod.mk.injEq] at h
            obtain ⟨rfl, rfl⟩ := h
            cases hp with
            | ptr _ _ rb hb' =>
              obtain ⟨h1, h2⟩ := hx.cells hnt
              obtain ⟨k1, k2⟩ := store_ok (P := P) hs hb' hcs hset h1 h2
              refine does_skip (sm := Instr.storeAt t (a.eval p) (a.eval x)) rfl ?_ k2
              have hsz := hx.size
              simp [Instr.storeAt, hr, Instr.sureAddr, storeVar, run_size hn]
              rw [if_pos (by omega)]
              exact k1
          · cases h
        · cases h
      · cases h
    · cases h
  · cases h
end
end Den

set_option autoImplicit false
set_option linter.unusedVariables false
set_option linter.unusedSimpArgs false
namespace Den
open Go Go.RowKit
section
variable {ρ : Vl} {G : Gh} {w w' w0 : World} {P : Program} {U : TypeId} {e : Env} {a : Act} {B : Nat} {s : St}
def World.setMap (w : World) (r : Nat) (es : Array MapEntry) (cl : Nat) : World := { w with heap := w.heap.setIfInBounds r (.map es cl) }
theorem setMap_chg {rb : Nat} {es es' : Array MapEntry} {cl cl' : Nat} (hw : w.heap[rb]? = some (.map es cl)) : ChgAt w (World.setMap w rb es' cl') rb ∧ (World.setMap w rb es' cl').heap[rb]? = some (.map es' cl') := by
  obtain ⟨h1, h2⟩ := MapKept.heap_set (o' := .map es' cl') hw
  refine ⟨⟨fun b _ hb => h2 b hb, by simp [World.setMap], rfl, rfl, rfl, fun et n hs => ?_⟩, h1⟩
  simp [World.shape?, hw] at hs
/-- a map is changed -/
theorem map_upd {b rb : Nat} {es es' : List (AV × AV × Nat)} {cl cl' : Nat} {rs rs' : List MapEntry} (h : SR U ρ B w0 G s w) (hb : G.io b = some rb) (hg : s.blk.get b = some (.map es cl)) (hw : w.heap[rb]? = some (.map rs.toArray cl)) (he : ER ρ G w es' rs') :
    SR U ρ B w0 G (setBlk s b (.map es' cl')) (World.setMap w rb rs'.toArray cl') ∧ Ext G w G (World.setMap w rb rs'.toArray cl') ∧ Nxt G s G (setBlk s b (.map es' cl')) := by
  obtain ⟨c, hw'⟩ := setMap_chg (es' := rs'.toArray) (cl' := cl') hw
  exact h.upd hb hg c (.map es' cl' rb rs' (he.ext (ChgAt.ext h hb hg c)) hw')
theorem ER.append {es fs : List (AV × AV × Nat)} {rs qs : List MapEntry} (h : ER ρ G w es rs) (k : ER ρ G w fs qs) : ER ρ G w (es ++ fs) (rs ++ qs) := by
  induction h with
  | nil => exact k
  | cons k' v' n' rk rv es rs hk hv t ih => exact .cons _ _ _ _ _ _ _ hk hv ih
theorem ER.modE {x : AV} {rx : Value} (hx : VR ρ G w x rx) : ∀ {es : List (AV × AV × Nat)} {rs : List MapEntry} {i : Nat}, ER ρ G w es rs → ER ρ G w (modE i x es) (rs.modify i fun e => { e with val := rx })
  | _, _, i, .nil => by cases i <;> exact .nil
  | _, _, 0, .cons k v n rk rv es rs hk hv t => by simp only [Den.modE, List.modify_zero_cons]; exact .cons _ _ _ _ _ _ _ hk hx t
  | _, _, i + 1, .cons k v n rk rv es rs hk hv t => by simp only [Den.modE, List.modify_succ_cons]; exact .cons _ _ _ _ _ _ _ hk hv (t.modE hx)
theorem modify_key {rs : List MapEntry} {i : Nat} {ent : MapEntry} {k u : Value} (h : rs[i]? = some ent) (hk : ent.key = k) : (rs.modify i fun e => { e with key := k, val := u }) = rs.modify i fun e => { e with val := u } := by
  apply List.ext_getElem?
  intro j
  simp only [List.getElem?_modify]
  by_cases hj : i = j
  · subst hj; rw [h]; simp [← hk]
  · simp [hj]
theorem modify_key1 {rs : List MapEntry} {i : Nat} {ent : MapEntry} {k : Value} (h : rs[i]? = some ent) (hk : ent.key = k) : (rs.modify i fun e => { e with key := k }) = rs := by
  apply List.ext_getElem?
  intro j
  simp only [List.getElem?_modify]
  by_cases hj : i = j
  · subst hj; rw [h]; simp [← hk]
  · simp [hj]
theorem setMap_same {rb : Nat} {es : Array MapEntry} {cl : Nat} (hw : w.heap[rb]? = some (.map es cl)) : World.setMap w rb es cl = w := by
  have : w.heap.setIfInBounds rb (.map es cl) = w.heap := by
    apply Array.ext_getElem?
    intro j
    by_cases hj : rb = j
    · subst hj
      have hlt : rb < w.heap.size := by
        rcases Nat.lt_or_ge rb w.heap.size with h | h
        · exact h
        · simp [Array.getElem?_eq_none h] at hw
      rw [Array.getElem?_setIfInBounds_self_of_lt hlt, hw]
    · rw [Array.getElem?_setIfInBounds_ne hj]
  simp only [World.setMap, this]
theorem run_setMap {rb : Nat} {es es' : Array MapEntry} {cl cl' : Nat} (hw : w.heap[rb]? = some (.map es cl)) : (setObj rb (.map es' cl')).run P w = .ok () (World.setMap w rb es' cl') := MapKept.run_setObj_map _ hw
theorem e_mup {dst : Option Nat} {type : TypeId} {pos : String} {aft : Array Edge} {g : Option (Nat × Bool)} {t kty el : TypeId} {kt : KT} {m k x : Operand} {om ok ox : Opd} {v : AV} {s' : St} (hs : SR U ρ B w0 G s w) (hm : VR ρ G w (om.ev e) (a.eval m)) (hk : VR ρ G w (ok.ev e) (a.eval k)) (hx : VR ρ G w (ox.ev e) (a.eval x))
    (hu : P.underlying t = some (.map kty el)) (ht : keyTy P kty = some kt) (h : evE e s (.mup kt om ok ox) = some (v, s')) : Does U ρ B w0 G s w v s' ((execOp a.eval ⟨dst, .mapUpdate t m k x, type, pos, aft, g⟩).run P w) := by
  simp only [evE] at h
  generalize om.ev e = y at h hm
  generalize hr : a.eval m = rm at hm
  split at h
  · rename_i b
    split at h
    · rename_i es cl he
      cases hm with
      | mapr _ rb hb =>
        obtain ⟨hg, rs, h1, h2⟩ := entries_ok hs he hb
        split at h
        · rename_i i u n hf
          injection h with h
          simp only [Prod.mk.injEq] at h
          obtain ⟨rfl, rfl⟩ := h
          obtain ⟨r', ⟨j, kk, ent, q1, q2, q3, rfl, q5, q6, q7, q8⟩, k2, k3⟩ := findK_ok ht hk h1 hf
          simp only [Nat.zero_add] at q1
          subst q1
          have key := map_upd (cl' := cl) hs hb hg h2 (h1.modE (i := i) hx)
          refine does_skip (sm := Instr.mapUpdate t (a.eval m) (a.eval k) (a.eval x)) rfl ?_ key
          have hst := run_stays (P := P) q8 w
          rw [hr]
          simp [Instr.mapUpdate, run_underlying hu, MapKept.run_getObj_map h2, k3, k2, q3, q7, hst, run_setMap h2, modify_key q3 q7]
        · rename_i hf
          injection h with h
          simp only [Prod.mk.injEq] at h
          obtain ⟨rfl, rfl⟩ := h
          obtain ⟨r', k1, k2, k3⟩ := findK_ok ht hk h1 hf
          have hr0 : r' = none := k1
          subst hr0
          have key := map_upd (cl' := cl + 1) hs hb hg h2 (h1.append (.cons _ _ cl _ _ _ _ hk hx .nil))
          refine does_skip (sm := Instr.mapUpdate t (a.eval m) (a.eval k) (a.eval x)) rfl ?_ key
          rw [hr]
          simp [Instr.mapUpdate, run_underlying hu, MapKept.run_getObj_map h2, k3, k2, run_setMap h2]
        · cases h
    · cases h
  · cases h
theorem e_ment {dst : Option Nat} {type : TypeId} {pos : String} {aft : Array Edge} {g : Option (Nat × Bool)} {t kty el : TypeId} {kt : KT} {z : AV} {m k : Operand} {om ok : Opd} {v : AV} {s' : St} (hs : SR U ρ B w0 G s w) (hm : VR ρ G w (om.ev e) (a.eval m)) (hk : VR ρ G w (ok.ev e) (a.eval k))
    (hu : P.underlying t = some (.map kty el)) (ht : keyTy P kty = some kt) (hz : tyZero P el = some z) (h : evE e s (.ment kt z om ok) = some (v, s')) : Does U ρ B w0 G s w v s' ((execOp a.eval ⟨dst, .mapEntry t m k, type, pos, aft, g⟩).run P w) := by
  simp only [evE] at h
  generalize om.ev e = y at h hm
  generalize hr : a.eval m = rm at hm
  obtain ⟨i, rz, hi, hz', hzv, _⟩ := tyZero_ok hz
  have hzr : ∀ w', (zeroValue el).run P w' = .ok rz w' := fun w' => by simp [zeroValue, typeInfo, hi, hz']
  split at h
  · rename_i b
    split at h
    · rename_i es cl he
      cases hm with
      | mapr _ rb hb =>
        obtain ⟨hg, rs, h1, h2⟩ := entries_ok hs he hb
        split at h
        · rename_i i u n hf
          injection h with h
          simp only [Prod.mk.injEq] at h
          obtain ⟨rfl, rfl⟩ := h
          obtain ⟨r', ⟨j, kk, ent, q1, q2, q3, rfl, q5, q6, q7, q8⟩, k2, k3⟩ := findK_ok ht hk h1 hf
          simp only [Nat.zero_add] at q1
          subst q1
          refine does_val (sm := Instr.mapEntry t (a.eval m) (a.eval k)) (w' := w) (G' := G) (rv := .tuple #[ent.val, goInt ent.born]) rfl ?_ ⟨hs, Ext.refl _ _, Nxt.refl _ _⟩ (pair_ok q5 (by rw [q6]; exact VR.natC n))
          have hst := run_stays (P := P) q8 w
          have hsame := setMap_same h2
          rw [hr]
          simp [Instr.mapEntry, run_underlying hu, MapKept.run_getObj_map h2, k3, k2, q3, q7, hst, run_setMap h2, modify_key1 q3 q7, hsame]
        · rename_i hf
          injection h with h
          simp only [Prod.mk.injEq] at h
          obtain ⟨rfl, rfl⟩ := h
          obtain ⟨r', k1, k2, k3⟩ := findK_ok ht hk h1 hf
          have hr0 : r' = none := k1
          subst hr0
          have key := map_upd (cl' := cl + 1) hs hb hg h2 (h1.append (.cons _ _ cl _ _ _ _ hk (hzv ρ G w) .nil))
          refine does_val (sm := Instr.mapEntry t (a.eval m) (a.eval k)) (rv := .tuple #[rz, goInt cl]) rfl ?_ key (pair_ok (hzv ρ G _) (VR.natC cl))
          rw [hr]
          simp [Instr.mapEntry, run_underlying hu, MapKept.run_getObj_map h2, k3, k2, run_setMap h2, hzr]
        · cases h
    · cases h
  · cases h
theorem setBorn_ok {x : AV} {rx : Value} {n : Nat} (hx : VR ρ G w x rx) : ∀ {es es' : List (AV × AV × Nat)} {rs : List MapEntry}, ER ρ G w es rs → setBorn n x es = some es' → ∃ i, rs.findIdx? (fun e => (e.born : Int) == (n : Int)) = some i ∧ ER ρ G w es' (rs.modify i fun e => { e with val := rx })
  | _, es', _, .nil, h => by simp [setBorn] at h
  | _, es', _, .cons k v m rk rv es rs hk hv t, h => by
    simp only [setBorn] at h
    split at h
    · rename_i hb
      have hm := Nat.eq_of_beq_eq_true hb
      injection h with h; subst h
      exact ⟨0, by simp [List.findIdx?_cons, hm], by simp only [List.modify_zero_cons]; exact .cons _ _ _ _ _ _ _ hk hx t⟩
    · rename_i hb
      split at h
      · rename_i r hr
        injection h with h; subst h
        obtain ⟨i, h1, h2⟩ := setBorn_ok hx t hr
        refine ⟨i + 1, ?_, by simp only [List.modify_succ_cons]; exact .cons _ _ _ _ _ _ _ hk hv h2⟩
        have : ((m : Int) == (n : Int)) = false := by
          rw [beq_eq_false_iff_ne]; intro e; have e' : m = n := by omega
          subst e'; rw [Nat.beq_refl] at hb; cases hb
        rw [List.findIdx?_cons]; simp only [this]
        rw [h1]; rfl
      · cases h
theorem e_mst {dst : Option Nat} {type : TypeId} {pos : String} {aft : Array Edge} {g : Option (Nat × Bool)} {t : TypeId} {m n x : Operand} {om on ox : Opd} {v : AV} {s' : St} (hs : SR U ρ B w0 G s w) (hm : VR ρ G w (om.ev e) (a.eval m)) (hn : VR ρ G w (on.ev e) (a.eval n)) (hx : VR ρ G w (ox.ev e) (a.eval x))
    (h : evE e s (.mst om on ox) = some (v, s')) : Does U ρ B w0 G s w v s' ((execOp a.eval ⟨dst, .entryStore t m n x, type, pos, aft, g⟩).run P w) := by
  simp only [evE] at h
  generalize om.ev e = y at h hm
  generalize hq : natV (on.ev e) = q at h
  generalize hr : a.eval m = rm at hm
  split at h
  · rename_i b n'
    split at h
    · rename_i es cl he
      cases hm with
      | mapr _ rb hb =>
        obtain ⟨hg, rs, h1, h2⟩ := entries_ok hs he hb
        split at h
        · rename_i es' hse
          injection h with h
          simp only [Prod.mk.injEq] at h
          obtain ⟨rfl, rfl⟩ := h
          obtain ⟨kk, hk⟩ := natV_ok hn hq
          obtain ⟨i, k1, k2⟩ := setBorn_ok hx h1 hse
          refine does_skip (sm := Instr.entryStore t (a.eval m) (a.eval n) (a.eval x)) rfl ?_ (map_upd (cl' := cl) hs hb hg h2 k2)
          rw [hr, hk]
          simp [Instr.entryStore, MapKept.run_getObj_map h2, asInt, asIntOf, run_setMap h2]
          rw [k1]
          simp [run_setMap h2]
        · cases h
    · cases h
  · cases h
theorem ER.delE : ∀ {es : List (AV × AV × Nat)} {rs : List MapEntry} {i : Nat}, ER ρ G w es rs → ER ρ G w (delE i es) (rs.eraseIdx i)
  | _, _, i, .nil => by cases i <;> exact .nil
  | _, _, 0, .cons k v n rk rv es rs hk hv t => by simpa [Den.delE] using t
  | _, _, i + 1, .cons k v n rk rv es rs hk hv t => by simp only [Den.delE, List.eraseIdx_cons_succ]; exact .cons _ _ _ _ _ _ _ hk hv t.delE
theorem does_call {b : Builtin} {ats : Array TypeId} {args : Array Operand} {dst : Option Nat} {type : TypeId} {pos : String} {aft : Array Edge} {g : Option (Nat × Bool)} {s' : St} {w' : World} {G' : Gh} {v : AV} {rv : Value}
    (hs : (builtin b ats type (args.map fun | .const _ => true | _ => false) (args.map a.eval)).run P w = .ok (.value rv) w') (h : SR U ρ B w0 G' s' w' ∧ Ext G w G' w' ∧ Nxt G s G' s') (hv : VR ρ G' w' v rv) :
    Does U ρ B w0 G s w v s' ((execOp a.eval ⟨dst, .call ⟨.builtin b, args, ats⟩, type, pos, aft, g⟩).run P w) :=
  ⟨.value rv, rv, w', G', call_run hs, .inl rfl, h.1, h.2.1, h.2.2, hv⟩
theorem e_del {dst : Option Nat} {type : TypeId} {pos : String} {aft : Array Edge} {g : Option (Nat × Bool)} {ats : Array TypeId} {t kty el : TypeId} {kt : KT} {m k : Operand} {om ok : Opd} {v : AV} {s' : St} (hs : SR U ρ B w0 G s w) (hm : VR ρ G w (om.ev e) (a.eval m)) (hk : VR ρ G w (ok.ev e) (a.eval k))
    (hat : ats[0]? = some t) (hu : P.underlying t = some (.map kty el)) (ht : keyTy P kty = some kt) (h : evE e s (.del kt om ok) = some (v, s')) : Does U ρ B w0 G s w v s' ((execOp a.eval ⟨dst, .call ⟨.builtin .delete, #[m, k], ats⟩, type, pos, aft, g⟩).run P w) := by
  simp only [evE] at h
  generalize om.ev e = y at h hm
  generalize hr : a.eval m = rm at hm
  have hb' : ∀ {w' : World}, (Builtin.delete_ ats type #[a.eval m, a.eval k]).run P w = .ok (.tuple #[]) w' → (builtin .delete ats type ((#[m, k] : Array Operand).map fun | .const _ => true | _ => false) ((#[m, k] : Array Operand).map a.eval)).run P w = .ok (.value (.tuple #[])) w' := by
    intro w' h
    simp only [builtin, List.map_toArray, List.map_cons, List.map_nil]
    rw [Sem.run_bind, h]; rfl
  split at h
  · rename_i b
    split at h
    · rename_i es cl he
      cases hm with
      | mapr _ rb hb =>
        obtain ⟨hg, rs, h1, h2⟩ := entries_ok hs he hb
        split at h
        · rename_i i u n hf
          injection h with h
          simp only [Prod.mk.injEq] at h
          obtain ⟨rfl, rfl⟩ := h
          obtain ⟨r', ⟨j, kk, ent, q1, q2, q3, rfl, q5, q6, q7, q8⟩, k2, k3⟩ := findK_ok ht hk h1 hf
          simp only [Nat.zero_add] at q1
          subst q1
          refine does_call (hb' ?_) (map_upd (cl' := cl) hs hb hg h2 (h1.delE (i := i))) .undef
          have hlt : i < rs.length := (List.getElem?_eq_some_iff.1 q3).1
          rw [hr]
          simp [Builtin.delete_, hat, run_underlying hu, MapKept.run_getObj_map h2, k3, k2, run_setMap h2, Array.eraseIdxIfInBounds, hlt]
        · rename_i hf
          injection h with h
          simp only [Prod.mk.injEq] at h
          obtain ⟨rfl, rfl⟩ := h
          obtain ⟨r', k1, k2, k3⟩ := findK_ok ht hk h1 hf
          have hr0 : r' = none := k1
          subst hr0
          refine does_call (w' := w) (G' := G) (hb' ?_) ⟨hs, Ext.refl _ _, Nxt.refl _ _⟩ .undef
          have hsame := setMap_same h2
          rw [hr]
          simp [Builtin.delete_, hat, run_underlying hu, MapKept.run_getObj_map h2, k3, k2, run_setMap h2, hsame]
        · cases h
    · cases h
  · cases h
end
end Den

set_option autoImplicit false
set_option linter.unusedVariables false
set_option linter.unusedSimpArgs false
namespace Den
open Go Go.RowKit
section
variable {ρ : Vl} {G : Gh} {w w' w0 : World} {P : Program} {U : TypeId} {e : Env} {a : Act} {B : Nat} {s : St}
/-- a new block, at once -/
theorem new_block {o : AObj} (h : SR U ρ B w0 G s w) (c : Chg0 w w') (hsz : w.heap.size < w'.heap.size) (ho : OR ρ (G.own s.nb w.heap.size) w' o w.heap.size) :
    SR U ρ B w0 (G.own s.nb w.heap.size) (newBlk s o) w' ∧ Ext G w (G.own s.nb w.heap.size) w' ∧ Nxt G s (G.own s.nb w.heap.size) (newBlk s o) := by
  obtain ⟨h1, h2⟩ := h.newBlk o
  have hio : G.io s.nb = none := (h.new _ (Nat.le_refl _)).1
  refine ⟨h1.own c hio (Nat.lt_succ_self _) (Nat.le_refl _) hsz (fun o' ho' => ?_), Ext.own h c hio, ⟨h2.nb, h2.nt, fun b hb hg => ?_, h2.top⟩⟩
  · have : (s.blk.put s.nb o).get s.nb = some o' := ho'
    rw [Tr.put_same] at this; injection this with this; subst this; exact ho
  · obtain ⟨_, k2⟩ := h2.pend b hb hg
    refine ⟨?_, k2⟩
    show (if b = s.nb then some w.heap.size else G.io b) = none
    rw [if_neg (by omega)]; exact hg
theorem e_rng {dst : Option Nat} {type : TypeId} {pos : String} {aft : Array Edge} {g : Option (Nat × Bool)} {t kk el : TypeId} {x : Operand} {ox : Opd} {v : AV} {s' : St} (hs : SR U ρ B w0 G s w) (hx : VR ρ G w (ox.ev e) (a.eval x))
    (hu : P.underlying t = some (.map kk el)) (h : evE e s (.rng ox) = some (v, s')) : Does U ρ B w0 G s w v s' ((execOp a.eval ⟨dst, .range t x, type, pos, aft, g⟩).run P w) := by
  simp only [evE] at h
  generalize ox.ev e = y at h hx
  generalize hr : a.eval x = rx at hx
  split at h
  · injection h with h
    simp only [Prod.mk.injEq] at h
    obtain ⟨rfl, rfl⟩ := h
    cases hx
    refine does_val (sm := Instr.range t (a.eval x)) (w' := w.alloc (.mapIter none 0 #[] 0)) (rv := .pointer (some ⟨w.heap.size, 0, none⟩)) rfl ?_ (new_block hs (Chg0.alloc w _) (by simp) (.miter none 0 [] 0 _ none (.inl ⟨rfl, rfl⟩) (heap_new w _))) (.ptr _ _ _ (own_io _ _ _))
    rw [hr]; simp [Instr.range, run_underlying hu]
  · rename_i m
    split at h
    · rename_i es cl he
      injection h with h
      simp only [Prod.mk.injEq] at h
      obtain ⟨rfl, rfl⟩ := h
      cases hx with
      | mapr _ rb hb =>
        obtain ⟨hg, rs, h1, h2⟩ := entries_ok hs he hb
        have hio : G.io s.nb = none := (hs.new _ (Nat.le_refl _)).1
        have hne : m ≠ s.nb := by rintro rfl; rw [hb] at hio; cases hio
        refine does_val (sm := Instr.range t (a.eval x)) (w' := w.alloc (.mapIter (some rb) cl #[] cl)) (rv := .pointer (some ⟨w.heap.size, 0, none⟩)) rfl ?_
          (new_block hs (Chg0.alloc w _) (by simp) (.miter (some m) cl [] cl _ (some rb) (.inr ⟨m, rb, rfl, rfl, by show (if m = s.nb then _ else G.io m) = some rb; rw [if_neg hne]; exact hb⟩) (heap_new w _))) (.ptr _ _ _ (own_io _ _ _))
        rw [hr]; simp [Instr.range, run_underlying hu, MapKept.run_getObj_map h2]
    · cases h
  · cases h
theorem memN_eq (n : Nat) : ∀ (l : List Nat), memN n l = l.contains n
  | [] => rfl
  | m :: l => by
    simp only [memN, List.contains_cons]
    cases hb : Nat.beq m n
    · have : (n == m) = false := by rw [beq_eq_false_iff_ne]; intro e; subst e; rw [Nat.beq_refl] at hb; cases hb
      simp only [this, Bool.false_or]; exact memN_eq n l
    · have := Nat.eq_of_beq_eq_true hb
      subst this; simp
theorem unseen_ok (seen : List Nat) : ∀ {es : List (AV × AV × Nat)} {rs : List MapEntry}, ER ρ G w es rs → ER ρ G w (unseen seen es) (rs.filter fun e => !seen.contains e.born)
  | _, _, .nil => .nil
  | _, _, .cons k v n rk rv es rs hk hv t => by
    simp only [unseen, memN_eq, List.filter_cons]
    cases seen.contains n
    · simp only [Bool.not_false, if_true]; exact .cons _ _ _ _ _ _ _ hk hv (unseen_ok seen t)
    · simp only [Bool.not_true, Bool.false_eq_true, if_false]; exact unseen_ok seen t
theorem allFrom_ok (n : Nat) : ∀ {es : List (AV × AV × Nat)} {rs : List MapEntry}, ER ρ G w es rs → allFrom n es = rs.all (fun e => decide (e.born ≥ n))
  | _, _, .nil => rfl
  | _, _, .cons k v m rk rv es rs hk hv t => by
    simp only [allFrom, List.all_cons]
    cases hb : Nat.ble n m
    · have : ¬ (n ≤ m) := fun h => by rw [Nat.ble_eq_true_of_le h] at hb; cases hb
      simp [this]
    · have := Nat.le_of_ble_eq_true hb
      simp only [ge_iff_le, this, decide_true, Bool.true_and]; exact allFrom_ok n t
theorem isE_eq {α : Type} (l : List α) : isE l = l.isEmpty := by cases l <;> rfl
theorem e_nxt {dst : Option Nat} {type : TypeId} {pos : String} {aft : Array Edge} {g : Option (Nat × Bool)} {x : Operand} {ox : Opd} {v : AV} {s' : St} (hs : SR U ρ B w0 G s w) (hx : VR ρ G w (ox.ev e) (a.eval x))
    (h : evE e s (.nxt ox) = some (v, s')) : Does U ρ B w0 G s w v s' ((execOp a.eval ⟨dst, .next x false, type, pos, aft, g⟩).run P w) := by
  simp only [evE] at h
  generalize ox.ev e = y at h hx
  generalize hr : a.eval x = rx at hx
  split at h
  · rename_i b
    have over : VR ρ G w (.lst .tup [.bool false]) (.tuple #[.bool false]) := .tup [.bool false] [.bool false] (.cons _ _ _ _ (.bool _) .nil)
    split at h
    · rename_i hg
      injection h with h
      simp only [Prod.mk.injEq] at h
      obtain ⟨rfl, rfl⟩ := h
      cases hx with
      | ptr _ _ rb hb =>
        cases hs.blk b _ rb hg hb with
        | miter _ _ _ _ _ rm hm hw =>
          rcases hm with ⟨_, rfl⟩ | ⟨_, _, h0, _⟩
          · refine does_val (sm := Instr.next (a.eval x) false type) (w' := w) (G' := G) rfl ?_ ⟨hs, Ext.refl _ _, Nxt.refl _ _⟩ over
            rw [hr]
            simp [Instr.next, getObj, Sem.run, hw]
          · cases h0
    · rename_i m since seen last hg
      split at h
      · rename_i es cl he
        split at h
        · cases h
        rename_i hguard
        cases hx with
        | ptr _ _ rb hb =>
          cases hs.blk b _ rb hg hb with
          | miter _ _ _ _ _ rm hm hw =>
            rcases hm with ⟨h0, _⟩ | ⟨mb, r, h1, rfl, h3⟩
            · cases h0
            · injection h1 with h1; subst h1
              obtain ⟨_, rs, he1, he2⟩ := entries_ok hs he h3
              have hun := unseen_ok seen he1
              have g1 : (getObj rb).run P w = .ok (.mapIter (some r) since seen.toArray last) w := by simp [getObj, Sem.run, hw]
              have hgd : (!seen.isEmpty && !rs.isEmpty && rs.all (fun e => decide (e.born ≥ last))) = false := by
                rw [← allFrom_ok last he1]
                have hrs : rs.isEmpty = isE es := by
                  rw [isE_eq]
                  cases he1 <;> rfl
                rw [hrs, ← isE_eq seen]
                simpa using hguard
              split at h
              · rename_i hnil
                injection h with h
                simp only [Prod.mk.injEq] at h
                obtain ⟨rfl, rfl⟩ := h
                rw [hnil] at hun
                have hfil : rs.filter (fun e => !seen.contains e.born) = [] := by
                  generalize rs.filter (fun e => !seen.contains e.born) = q at hun
                  cases hun; rfl
                refine does_val (sm := Instr.next (a.eval x) false type) (w' := w) (G' := G) rfl ?_ ⟨hs, Ext.refl _ _, Nxt.refl _ _⟩ over
                rw [hr]
                have harr : Array.filter (fun e => !seen.contains e.born) rs.toArray = #[] := by simp only [List.filter_toArray, hfil]
                simp only [Instr.next, Sem.run_bind, g1, Result.andThen_ok, MapKept.run_getObj_map he2, List.isEmpty_toArray, List.all_toArray', List.contains_toArray, hgd, Bool.false_eq_true, if_false, harr]
                simp [Question.forced]
              · rename_i k u n hone
                split at h
                · rename_i hlt
                  injection h with h
                  simp only [Prod.mk.injEq] at h
                  obtain ⟨rfl, rfl⟩ := h
                  rw [hone] at hun
                  have hfil : ∃ rk ru, rs.filter (fun e => !seen.contains e.born) = [{ key := rk, val := ru, born := n }] ∧ VR ρ G w k rk ∧ VR ρ G w u ru := by
                    generalize rs.filter (fun e => !seen.contains e.born) = q at hun
                    cases hun with
                    | cons _ _ _ rk ru _ _ hk hu t => cases t; exact ⟨rk, ru, rfl, hk, hu⟩
                  obtain ⟨rk, ru, hfil, hk, hu⟩ := hfil
                  have hlt' : n < since := Nat.le_of_ble_eq_true hlt
                  have harr : Array.filter (fun e => !seen.contains e.born) rs.toArray = #[{ key := rk, val := ru, born := n }] := by simp only [List.filter_toArray, hfil]
                  have hold : Array.filter (fun x : MapEntry => decide (x.born < since)) #[{ key := rk, val := ru, born := n }] = #[{ key := rk, val := ru, born := n }] := by simp [hlt']
                  have hnew : Array.filter (fun x : MapEntry => decide (x.born ≥ since)) #[{ key := rk, val := ru, born := n }] = #[] := by simp; omega
                  obtain ⟨c1, c2⟩ := MapKept.heap_set (o' := .mapIter (some r) since (seen ++ [n]).toArray cl) hw
                  have c : ChgAt w { w with heap := w.heap.setIfInBounds rb (.mapIter (some r) since (seen ++ [n]).toArray cl) } rb := ⟨fun q _ hq => c2 q hq, by simp, rfl, rfl, rfl, fun et m hs' => by simp [World.shape?, hw] at hs'⟩
                  have xx := ChgAt.ext hs hb hg c
                  refine does_val (sm := Instr.next (a.eval x) false type) (rv := .tuple #[.bool true, rk, ru]) rfl ?_ (hs.upd hb hg c (.miter (some m) since (seen ++ [n]) cl rb (some r) (.inr ⟨m, r, rfl, rfl, h3⟩) c1))
                    (.tup [.bool true, k, u] [.bool true, rk, ru] (.cons _ _ _ _ (.bool _) (.cons _ _ _ _ (hk.ext xx) (.cons _ _ _ _ (hu.ext xx) .nil))))
                  rw [hr]
                  simp only [Instr.next, Sem.run_bind, g1, Result.andThen_ok, MapKept.run_getObj_map he2, List.isEmpty_toArray, List.all_toArray', List.contains_toArray, hgd, Bool.false_eq_true, if_false, harr, hold, hnew]
                  simp [Question.forced, setObj, Sem.run, hw]
                · cases h
              · cases h
      · cases h
    · cases h
  · cases h
end
end Den

set_option autoImplicit false
set_option linter.unusedVariables false
set_option linter.unusedSimpArgs false
namespace Den
open Go Go.RowKit
section
variable {ρ : Vl} {G : Gh} {w w' w0 : World} {P : Program} {U : TypeId} {e : Env} {a : Act} {B : Nat} {s : St}
theorem elemZ_one {el : TypeId} {zc : List AV} (h : elemZ P el = some zc) : ∀ n, (Builtin.zeroCells ((match P.info? el with | some i => (match i.zero with | some z => z.cells | none => #[]) | none => #[])) n).toList.length = n * zc.length := by
  obtain ⟨i, rz, hi, hz', hzl, hzs, hzo, hzv⟩ := elemZ_ok h
  intro n
  simp [hi, hz', Builtin.zeroCells, hzs, hzl]
theorem zero_rep (zs : Array Value) (n : Nat) : Builtin.zeroCells zs n = (List.replicate n zs.toList).flatten.toArray := range_rep zs n
theorem e_clr {dst : Option Nat} {type : TypeId} {pos : String} {aft : Array Edge} {g : Option (Nat × Bool)} {ats : Array TypeId} {t el : TypeId} {z : Nat} {zc : List AV} {x : Operand} {ox : Opd} {v : AV} {s' : St} (hs : SR U ρ B w0 G s w) (hx : VR ρ G w (ox.ev e) (a.eval x))
    (hat : ats[0]? = some t) (hu : P.underlying t = some (.slice el)) (hz : elemZ P el = some zc) (h : evE e s (.clr z zc ox) = some (v, s')) : Does U ρ B w0 G s w v s' ((execOp a.eval ⟨dst, .call ⟨.builtin .clear, #[x], ats⟩, type, pos, aft, g⟩).run P w) := by
  simp only [evE] at h
  generalize ox.ev e = y at h hx
  generalize hr : a.eval x = rx at hx
  obtain ⟨i, rz, hi, hz', hzl, hzs, hzo, hzv⟩ := elemZ_ok hz
  have hzr : ∀ w', (zeroValue el).run P w' = .ok rz w' := fun w' => by simp [zeroValue, typeInfo, hi, hz']
  have hb' : ∀ {w' : World}, (Builtin.clear_ ats type #[a.eval x]).run P w = .ok (.tuple #[]) w' → (builtin .clear ats type ((#[x] : Array Operand).map fun | .const _ => true | _ => false) ((#[x] : Array Operand).map a.eval)).run P w = .ok (.value (.tuple #[])) w' := by
    intro w' h
    simp only [builtin, List.map_toArray, List.map_cons, List.map_nil]
    rw [Sem.run_bind, h]; rfl
  split at h
  · injection h with h
    simp only [Prod.mk.injEq] at h
    obtain ⟨rfl, rfl⟩ := h
    cases hx
    exact does_call (w' := w) (G' := G) (hb' (by rw [hr]; simp [Builtin.clear_, hat, run_underlying hu])) ⟨hs, Ext.refl _ _, Nxt.refl _ _⟩ .undef
  · rename_i z' b off n cap
    split at h
    · cases hx with
      | hsl _ _ _ _ _ rb rcap et size o hb hzp h1 h2 hs' h3 ho =>
        cases n with
        | zero =>
          injection h with h
          simp only [Prod.mk.injEq] at h
          obtain ⟨rfl, rfl⟩ := h
          exact does_call (w' := w) (G' := G) (hb' (by rw [hr]; simp [Builtin.clear_, hat, run_underlying hu])) ⟨hs, Ext.refl _ _, Nxt.refl _ _⟩ .undef
        | succ n =>
          simp only at h
          split at h
          · rename_i cs hcs
            split at h
            · rename_i cs' hset
              injection h with h
              simp only [Prod.mk.injEq] at h
              obtain ⟨rfl, rfl⟩ := h
              have ho' := ho (by omega)
              subst ho'
              obtain ⟨k1, k2⟩ := store_ok (P := P) hs hb hcs hset ((hzv ρ G w).rep (n + 1)) (ones_rep hzo (n + 1))
              refine does_call (hb' ?_) k2 .undef
              rw [hr]
              simp [Builtin.clear_, hat, run_underlying hu, hzr, zero_rep]
              rw [k1]
              rfl
            · cases h
          · cases h
    · cases h
  · cases h
theorem freeze_obj (w : World) (rb o n : Nat) (r : Nat) (h : r ≠ rb) : (w.freeze ⟨rb, o, none⟩ n).heap[r]? = w.heap[r]? := by
  unfold World.freeze
  split
  · rfl
  · simp only [Array.getElem?_modify]
    rw [if_neg (Ne.symm h)]
theorem freeze_shape (w : World) (rb o n r : Nat) : (w.freeze ⟨rb, o, none⟩ n).shape? r = w.shape? r := by
  unfold World.freeze
  split
  · rfl
  · simp only [World.shape?, Array.getElem?_modify]
    by_cases h : rb = r
    · subst h
      simp only [if_true]
      cases w.heap[rb]? with
      | none => rfl
      | some ob => cases ob <;> simp
    · rw [if_neg h]
theorem freeze_cell (w : World) (rb o n : Nat) (a : Addr) : (w.freeze ⟨rb, o, none⟩ n).cell? a = w.cell? a := by
  unfold World.freeze
  split
  · rfl
  · simp only [World.cell?, Array.getElem?_modify]
    by_cases h : rb = a.block
    · rw [if_pos h]
      cases w.heap[a.block]? with
      | none => rfl
      | some ob => cases ob <;> simp
    · rw [if_neg h]
/-- bytes are shared with a string -/
theorem SR.freeze {rb n : Nat} {m : Imm} (h : SR U ρ B w0 G s w) (hm : G.im rb = some m) (hn : n ≤ m.filled * m.z) : SR U ρ B w0 G s (w.freeze ⟨rb, 0, none⟩ n) ∧ Ext G w G (w.freeze ⟨rb, 0, none⟩ n) := by
  have hsz : (w.freeze ⟨rb, 0, none⟩ n).heap.size = w.heap.size := by unfold World.freeze; split <;> simp
  have c : ChgAt w (w.freeze ⟨rb, 0, none⟩ n) rb := ⟨fun b _ hb => freeze_obj w rb 0 n b hb, by rw [hsz]; exact Nat.le_refl _, by unfold World.freeze; split <;> rfl, by unfold World.freeze; split <;> rfl, by unfold World.freeze; split <;> rfl, fun et k hs => by rw [freeze_shape]; exact hs⟩
  have x : Ext G w G (w.freeze ⟨rb, 0, none⟩ n) := ⟨fun _ _ e => e, fun _ m e => ⟨m, e, rfl, rfl, rfl, rfl, Nat.le_refl _⟩, fun r m' o _ _ => freeze_cell w rb 0 n _, fun r et k hs => by rw [freeze_shape]; exact hs⟩
  refine ⟨⟨?_, h.inj, h.new, h.newt, h.even, h.apart, ?_, ?_, ?_, Nat.le_trans h.le c.size⟩, x⟩
  · intro b o r hb hr
    refine (h.blk b o r hb hr).chgAt c x (h.lt b r hr).1 ?_
    rintro rfl
    rw [h.apart b o r hb hr] at hm; cases hm
  · intro r m' hr
    by_cases hrr : r = rb
    · subst hrr
      rw [hm] at hr; injection hr with hr; subst hr
      have hi := h.im r m hm
      refine ⟨hi.z, hi.fit, ?_, hi.top, hi.tok, hi.base⟩
      obtain ⟨arr, et, lo, hi', hb, hsize, hhi, hty⟩ := hi.blk
      unfold World.freeze
      split
      · exact ⟨arr, et, lo, hi', hb, hsize, hhi, hty⟩
      · refine ⟨arr, et, (if lo == hi' then (0, 0 + n) else (min lo 0, max hi' (0 + n))).1, (if lo == hi' then (0, 0 + n) else (min lo 0, max hi' (0 + n))).2, ?_, hsize, ?_, hty⟩
        · simp [Array.getElem?_modify, hb]
        · split
          · simp only; omega
          · simp only; omega
    · exact (h.im r m' hr).chgAt c hrr
  · exact fun b r hr => ⟨by rw [hsz]; exact (h.lt b r hr).1, (h.lt b r hr).2⟩
  · exact h.below.trans ⟨c.os, c.tape, c.output, c.size, fun k hk => c.obj k (by have := h.le; omega) (by have := (h.im rb m hm).base; omega)⟩
theorem natV64_ok {x : AV} {v : Value} {n : Nat} (h : VR ρ G w x v) (hn : natV64 x = some n) : v = .int .i64 (n : Int) := by
  unfold natV64 at hn
  split at hn <;> simp at hn
  subst hn
  cases h
  rfl
theorem e_ustr {dst : Option Nat} {type : TypeId} {pos : String} {aft : Array Edge} {g : Option (Nat × Bool)} {pt it : TypeId} {x n : Operand} {ox on : Opd} {v : AV} {s' : St} (hs : SR U ρ B w0 G s w) (hx : VR ρ G w (ox.ev e) (a.eval x)) (hn : VR ρ G w (on.ev e) (a.eval n))
    (hu : P.underlying pt = some (.pointer U)) (hc : P.cellsOf U = 1) (h : evE e s (.ustr ox on) = some (v, s')) : Does U ρ B w0 G s w v s' ((execOp a.eval ⟨dst, .call ⟨.builtin .unsafeString, #[x, n], #[pt, it]⟩, type, pos, aft, g⟩).run P w) := by
  simp only [evE] at h
  generalize hq : natV64 (on.ev e) = q at h
  generalize ox.ev e = y at h hx
  generalize hr : a.eval x = rx at hx
  have hb' : ∀ {w' : World} {r : Value}, (Builtin.unsafeString_ #[pt, it] type #[a.eval x, a.eval n]).run P w = .ok r w' → (builtin .unsafeString #[pt, it] type ((#[x, n] : Array Operand).map fun | .const _ => true | _ => false) ((#[x, n] : Array Operand).map a.eval)).run P w = .ok (.value r) w' := by
    intro w' r h
    simp only [builtin, List.map_toArray, List.map_cons, List.map_nil]
    rw [Sem.run_bind, h]; rfl
  split at h
  · injection h with h
    simp only [Prod.mk.injEq] at h
    obtain ⟨rfl, rfl⟩ := h
    cases hx
    have hn' := natV64_ok hn hq
    refine does_call (w' := w) (G' := G) (hb' (r := .string .empty) ?_) ⟨hs, Ext.refl _ _, Nxt.refl _ _⟩ (.str _ _ Bs.nil)
    rw [hr, hn']
    exact Go.Lib.run_unsafeString_none w pt it type none
  · rename_i tok cs n'
    split at h
    · rename_i c0 cs0 hb
      split at h
      · rename_i l hl
        injection h with h
        simp only [Prod.mk.injEq] at h
        obtain ⟨rfl, rfl⟩ := h
        simp only [Bool.and_eq_true] at hb
        obtain ⟨⟨b1, b2⟩, b3⟩ := hb
        rw [len_eq] at b1
        have hlen := Nat.eq_of_beq_eq_true b1
        have hn24 := Nat.le_of_ble_eq_true b2
        have hodd := Nat.eq_of_beq_eq_true b3
        have hn' := natV64_ok hn hq
        cases hx with
        | sdp _ _ rb _ vs m hm ht h0 hvs h1 hcc hf =>
          have hc0 : m.c0 = 0 := by omega
          have hst : (0 - m.c0) * m.z = 0 := by simp
          rw [hst] at hcc hf
          obtain ⟨e1, e2, e3, e4⟩ := bytesOf_ok hl hvs
          obtain ⟨arr, et, lo, hi, hblk, hsize, hhi, hty⟩ := (hs.im rb m hm).blk
          have het : et = U := hty (by rw [ht]; exact hodd)
          subst het
          have hvl := hvs.length
          have hfit := (hs.im rb m hm).fit
          let bs : List UInt8 := l.map (ub ρ)
          have hbl : bs.length = l.length := by simp [bs]
          have hbn : bs.length = n' := by rw [hbl, e4]; exact hlen
          have hrun := Go.Lib.run_unsafeString_row (P := P) w pt it type et hu hc rb arr.size (by simp [World.shape?, hblk]) bs (by intro hnil; rw [hnil] at hbl; simp at hbl; rw [← hbl] at e4; simp at e4) (by omega) (by omega)
            (fun j b hj => by
              rw [Addr.add_mid, Nat.zero_add]
              have hj' : l[j]?.map (ub ρ) = some b := by simpa [bs] using hj
              obtain ⟨k, hk, rfl⟩ := Option.map_eq_some_iff.1 hj'
              have hk255 := e2 k (List.mem_of_getElem? hk)
              have := hcc j (.int .u8 (bv ρ k)) (by rw [e1]; simp [hk])
              rw [Nat.zero_add] at this
              rw [this, ← ub_ok hk255])
          obtain ⟨f1, f2⟩ := hs.freeze hm (n := bs.length) (by omega)
          refine does_call (hb' ?_) ⟨f1, f2, Nxt.refl _ _⟩ (.str l ⟨bs.toArray⟩ ?_)
          · rw [hr, hn', hst, ← hbn]
            exact hrun
          · exact Bs.ub e2
      · cases h
    · cases h
  · cases h
end
end Den

set_option autoImplicit false
set_option linter.unusedVariables false
set_option linter.unusedSimpArgs false
namespace Den
open Go Go.RowKit
section
variable {ρ : Vl} {G : Gh} {w w' w0 : World} {P : Program} {U : TypeId} {e : Env} {a : Act} {B : Nat} {s : St}
theorem run_firstCells_ok {z n c rb o : Nat} {vs : List Value} (hl : vs.length = n * z) (hc : w.rangeAt rb o vs ∨ vs = []) : (Builtin.firstCells z n (.slice (some ⟨rb, o, none⟩) n c)).run P w = .ok vs.toArray w ∧ (Builtin.firstCells z n (.slice (some ⟨rb, o, none⟩) n c)).run P w.drew = .ok vs.toArray w.drew := by
  have h1 : ∀ (j : Nat) (u : Value), vs[j]? = some u → w.cell? ((⟨rb, o, none⟩ : Addr).add j) = some u := by
    intro j u hj
    rcases hc with hc | hc
    · rw [Addr.add_mid]; exact hc j u hj
    · subst hc; simp at hj
  exact ⟨run_firstCells_some w z n _ n c vs hl h1, run_firstCells_some w.drew z n _ n c vs hl (by simpa using h1)⟩
/-- what is appended -/
theorem items_ok {ag : Bool} {z : Nat} {y : AV} {ry : Value} {ys : List AV} {tx : TypeId} (hs : SR U ρ B w0 G s w) (hz : 0 < z) (hag : ag = true ∨ z = 1) (hk : (∃ e', P.underlying tx = some (.slice e')) ∨ P.underlying tx = some .string) (hy : VR ρ G w y ry) (h : itemsOf s ag z y = some ys) :
    ∃ news, Src P z tx ry ys.length news w ∧ VRs ρ G w (flat ys) news ∧ ones (flat ys) ∧ ∀ x ∈ ys, (cellsOf x).length = z := by
  unfold itemsOf at h
  split at h
  · injection h with h; subst h
    cases hy
    refine ⟨[], ⟨hk, fun _ => rfl, run_firstCells_none w z 0 0 0, run_firstCells_none w.drew z 0 0 0, by simp, fun _ h => by cases h⟩, .nil, by intro x hx; simp [flat] at hx, by intro x hx; simp at hx⟩
  · rename_i z' tok st xc xs
    split at h
    · rename_i hb
      have := Nat.eq_of_beq_eq_true hb
      subst this
      injection h with h; subst h
      cases hy with
      | vsl _ _ _ rb rcap o _ _ vs m hm hzz ht h0 hf hl hvs h1 hc hcap hxc htot ho =>
        have hvl := hvs.length
        rw [flat_length hl] at hvl
        have hcc : w.rangeAt rb o vs ∨ vs = [] := by
          rcases Nat.eq_zero_or_pos rcap with h0' | h0'
          · right
            have : xs.length = 0 := by omega
            rw [this] at hvl
            exact List.eq_nil_of_length_eq_zero (by omega)
          · left; rw [ho h0']; exact hc
        obtain ⟨f1, f2⟩ := run_firstCells_ok (P := P) (c := rcap) hvl hcc
        exact ⟨vs, ⟨hk, fun _ => rfl, f1, f2, hvl, hvs.oneCells h1⟩, hvs, h1, hl⟩
    · cases h
  · rename_i l
    split at h
    · rename_i hb
      have := Nat.eq_of_beq_eq_true hb
      subst this
      injection h with h; subst h
      cases hy with
      | str _ sb hsb =>
        obtain ⟨o1, o2, o3, o4⟩ := ofBytes_flat l
        have hls : l.length = sb.size := by rw [← hsb.length]; simp
        refine ⟨byteCells sb, ⟨hk, fun _ => by rw [o4, hls]; rfl, by rw [o4, hls]; exact firstCells_string sb w, by rw [o4, hls]; exact firstCells_string sb w.drew, by rw [o4, hls, byteCells_length]; omega, ?_⟩, ?_, by rw [o1]; exact o3, o2⟩
        · intro u hu
          obtain ⟨_, _, rfl⟩ := List.mem_map.1 hu
          rfl
        · rw [o1]; exact ofBytes_VRs hsb
    · cases h
  · rename_i z' b off n cap
    split at h
    · rename_i hb
      have := Nat.eq_of_beq_eq_true hb
      subst this
      split at h
      · rename_i cs hcs
        cases hy with
        | hsl _ _ _ _ _ rb rcap et size o hb hzp h1 h2 hs' h3 ho =>
          obtain ⟨vs, et', size', k1, k2, k3, _⟩ := cellsAt_ok hs hcs hb
          rw [dr_eq] at h
          obtain ⟨e1, e2, e3, e4⟩ := elems_ok hz hag h (ones_sub k2 fun x hx => List.mem_of_mem_drop hx)
          have kk : VRs ρ G w (flat ys) ((vs.drop off).take (n * z)) := by rw [e1]; exact (k1.drop off).take _
          have hlen := kk.length
          rw [flat_length e3, e2] at hlen
          have hcc : w.rangeAt rb o ((vs.drop off).take (n * z)) ∨ ((vs.drop off).take (n * z)) = [] := by
            rcases Nat.eq_zero_or_pos rcap with h0' | h0'
            · right
              have : n = 0 := by omega
              subst this; simp
            · left; rw [ho h0']
              have := rangeAt_part (off := off) (n := n * z) k3
              rw [Nat.zero_add] at this; exact this
          obtain ⟨f1, f2⟩ := run_firstCells_ok (P := P) (c := rcap) hlen hcc
          have h1' : ones (flat ys) := by rw [e1]; exact ones_sub k2 fun x hx => List.mem_of_mem_drop (List.mem_of_mem_take hx)
          refine ⟨_, ⟨hk, fun _ => by rw [e2]; rfl, by rw [e2]; exact f1, by rw [e2]; exact f2, by rw [e2]; exact hlen, kk.oneCells h1'⟩, kk, h1', e3⟩
      · cases h
    · cases h
  · cases h
theorem grow_fits {need old bytes : Nat} (h : old < need) (hn : need ≤ 16777216) (hb : bytes ≤ 65536) : Builtin.nextslicecap need old * bytes ≤ 281474976710656 := by
  have h1 := nextslicecap_le h
  have : Builtin.nextslicecap need old * bytes ≤ (2 * 16777216) * 65536 := Nat.mul_le_mul (by omega) hb
  omega
/-- append's real run when there is none: a new row -/
theorem grow_run {t tx ty el : TypeId} {i : TypeInfo} {rz : Value} {base : Option Addr} {sLen sCap n : Nat} {olds news : List Value} {ry : Value} (ht : P.underlying t = some (.slice el)) (hi : P.info? el = some i) (hz : i.zero = some rz) (hzs : rz.cells.size = i.size) (hb : i.bytes ≤ 65536)
    (hold : (Builtin.firstCells i.size sLen (.slice base sLen sCap)).run P w.drew = .ok olds.toArray w.drew) (hsrc : Src P i.size tx ry n news w) (hol : olds.length = sLen * i.size) (hg : sCap < sLen + n) (h24 : sLen + n ≤ 16777216) :
    ∃ (rcap : Nat) (arr : Array Value) (w' : World), (Builtin.append_ #[t, tx] ty #[.slice base sLen sCap, ry]).run P w = .ok (.slice (some ⟨w.heap.size, 0, none⟩) (sLen + n) rcap) w' ∧ Chg0 w w' ∧ w.heap.size < w'.heap.size ∧
      w'.heap[w.heap.size]? = some (.cells arr el (0, 0)) ∧ (∀ (j : Nat) (v : Value), (olds ++ news)[j]? = some v → arr[j]? = some v) ∧ sLen + n ≤ rcap ∧ rcap * i.size ≤ arr.size := by
  have hrun := run_append_grow_src w t tx ty el i rz ht hi hz base sLen sCap olds hold ry n news hsrc hg (by omega) (grow_fits hg h24 hb)
  have hge := grownCap_ge w (sLen + n) sCap el
  refine ⟨_, _, _, hrun, (Chg0.drew w).trans (Chg0.alloc w.drew _), by simp, heap_new w.drew _, ?_, hge, ?_⟩
  · intro j v hj
    rw [Array.getElem?_append_left (by have := (List.getElem?_eq_some_iff.1 hj).1; simpa using this)]
    simpa using hj
  · have hnl := hsrc.newsLen
    simp only [Array.size_append, List.size_toArray, List.length_append, size_zeroCells, hzs, hol, hnl]
    rw [← Nat.add_mul, ← Nat.add_mul]
    exact Nat.mul_le_mul_right _ (by omega)
theorem nothing_run {t tx ty el : TypeId} {i : TypeInfo} {base : Option Addr} {sLen sCap : Nat} {news : List Value} {ry : Value} (ht : P.underlying t = some (.slice el)) (hi : P.info? el = some i) (hsrc : Src P i.size tx ry 0 news w) (hle : sLen ≤ sCap) :
    (Builtin.append_ #[t, tx] ty #[.slice base sLen sCap, ry]).run P w = .ok (.slice base sLen sCap) w := by
  have hn : news = [] := List.eq_nil_of_length_eq_zero (by have := hsrc.newsLen; omega)
  subst hn
  cases base with
  | none => rcases hsrc.kind with ⟨e', hk⟩ | hk <;> simp [Builtin.append_, run_underlying ht, run_underlying hk, Go.sizeOf, typeInfo, hi, hsrc.len, hle, hsrc.cells]
  | some b => rcases hsrc.kind with ⟨e', hk⟩ | hk <;> simp [Builtin.append_, run_underlying ht, run_underlying hk, Go.sizeOf, typeInfo, hi, hsrc.len, hle, hsrc.cells, storeCells]
theorem app_call {t tx ty : TypeId} {x y : Operand} {r : Value} {w' : World} (h : (Builtin.append_ #[t, tx] ty #[a.eval x, a.eval y]).run P w = .ok r w') : (builtin .append #[t, tx] ty ((#[x, y] : Array Operand).map fun | .const _ => true | _ => false) ((#[x, y] : Array Operand).map a.eval)).run P w = .ok (.value r) w' := by
  simp only [builtin, List.map_toArray, List.map_cons, List.map_nil]
  rw [Sem.run_bind, h]; rfl
/-- a new slice, at once -/
theorem new_slice {heap : Bool} {u z n rcap : Nat} {xs : List AV} {arr : Array Value} {et : TypeId} {vs : List Value} (h : SR U ρ B w0 G s w) (hu : u ≤ 1) (hz : 0 < z) (hel : ∀ x ∈ xs, (cellsOf x).length = z) (hn : xs.length = n) (hv : VRs ρ G w (flat xs) vs) (h1 : ones (flat xs)) (c : Chg0 w w') (hsz : w.heap.size < w'.heap.size)
    (hw : w'.heap[w.heap.size]? = some (.cells arr et (0, 0))) (hpre : ∀ (j : Nat) (v : Value), vs[j]? = some v → arr[j]? = some v) (hcap : n ≤ rcap) (htot : rcap * z ≤ arr.size) (hut : u = 1 → et = U) :
    ∃ G', SR U ρ B w0 G' (mkSl heap u s z xs none).2 w' ∧ Ext G w G' w' ∧ Nxt G s G' (mkSl heap u s z xs none).2 ∧ VR ρ G' w' (mkSl heap u s z xs none).1 (.slice (some ⟨w.heap.size, 0, none⟩) n rcap) := by
  have hok : (Made.sl heap u z xs none).ok := hu
  obtain ⟨id, q1, q2, q3⟩ := Made.put_val (.sl heap u z xs none) s hok h
  obtain ⟨q4, q5⟩ := h.made hok
  obtain ⟨rv, w'', G', r1, r2, r3, r4, r5⟩ := makes_sl (r := (.ok (.value (.slice (some ⟨w.heap.size, 0, none⟩) n rcap)) w' : Result Next)) q4 q2 hz hel hn hv h1 c hsz hw hpre (.inl (Nat.le_refl _)) (fun _ => rfl) hcap htot (fun c hc => by cases hc) hut rfl
  injection r1 with r1 r1'
  injection r1 with r1
  subst r1; subst r1'
  refine ⟨G', r2, r3, ⟨q5.nb, q5.nt, fun b hb hg => ?_, q5.top⟩, ?_⟩
  · obtain ⟨k1, k2⟩ := q5.pend b hb hg
    rcases r5 b hg with h' | ⟨h', h''⟩
    · exact ⟨h', k2⟩
    · have := q3 h''
      omega
  · have : (mkSl heap u s z xs none).1 = (Made.sl heap u z xs none).val id := q1
    rw [this]; exact r4
end
end Den

set_option autoImplicit false
set_option linter.unusedVariables false
set_option linter.unusedSimpArgs false
namespace Den
open Go Go.RowKit
theorem setCell_blk {w : World} {b o : Nat} {v : Value} {arr : Array Value} {et : TypeId} {fr : Nat × Nat} (h : w.heap[b]? = some (.cells arr et fr)) : (w.setCell ⟨b, o, none⟩ v).heap[b]? = some (.cells (arr.setIfInBounds o v) et fr) := by
  simp [World.setCell, Array.getElem?_modify, h]
theorem setCells_blk {b : Nat} {et : TypeId} {fr : Nat × Nat} : ∀ {vs : List Value} {o : Nat} {w : World} {arr : Array Value}, w.heap[b]? = some (.cells arr et fr) → ∃ arr', (w.setCells b o vs).heap[b]? = some (.cells arr' et fr) ∧ arr'.size = arr.size
  | [], o, w, arr, h => ⟨arr, h, rfl⟩
  | v :: vs, o, w, arr, h => by
    obtain ⟨arr', h1, h2⟩ := setCells_blk (vs := vs) (o := o + 1) (setCell_blk (v := v) (o := o) h)
    exact ⟨arr', h1, by simpa using h2⟩
section
variable {ρ : Vl} {G : Gh} {w w' w0 : World} {P : Program} {U : TypeId} {e : Env} {a : Act} {B : Nat} {s : St}
/-- an immutable row is filled on -/
theorem SR.fill {rb k tok T : Nat} {m : Imm} {ns : List Value} (h : SR U ρ B w0 G s w) (hm : G.im rb = some m) (ht : m.tok = tok) (hT : s.top.get tok = some T) (hend : m.c0 + m.filled = T) (hlen : ns.length = k * m.z) (hfit : (m.filled + k) * m.z ≤ m.total) :
    SR U ρ B w0 (G.row rb { m with filled := m.filled + k }) { s with top := s.top.put tok (T + k) } (w.setCells rb (m.filled * m.z) ns) ∧ Ext G w (G.row rb { m with filled := m.filled + k }) (w.setCells rb (m.filled * m.z) ns) ∧
    Nxt G s (G.row rb { m with filled := m.filled + k }) { s with top := s.top.put tok (T + k) } := by
  have c := setCells_chg rb ns (m.filled * m.z) w
  have hmono : ∀ t T', s.top.get t = some T' → ∃ T'', (s.top.put tok (T + k)).get t = some T'' ∧ T' ≤ T'' := by
    intro t T' e
    by_cases htt : t = tok
    · subst htt
      rw [hT] at e; injection e with e; subst e
      exact ⟨T + k, Tr.put_same _ _ _, by omega⟩
    · exact ⟨T', by rw [Tr.put_other _ _ htt]; exact e, Nat.le_refl _⟩
  have hi := h.im rb m hm
  have himn : ∀ r, (G.row rb { m with filled := m.filled + k }).im r = if r = rb then some { m with filled := m.filled + k } else G.im r := fun r => rfl
  have x : Ext G w (G.row rb { m with filled := m.filled + k }) (w.setCells rb (m.filled * m.z) ns) := by
    refine ⟨fun _ _ e => e, fun r m' hr => ?_, fun r m' o hr ho => ?_, fun r et n hs => ?_⟩
    · rw [himn]
      by_cases hrr : r = rb
      · subst hrr
        rw [hm] at hr; injection hr with hr; subst hr
        rw [if_pos rfl]
        exact ⟨_, rfl, rfl, rfl, rfl, rfl, Nat.le_add_right _ _⟩
      · rw [if_neg hrr]
        exact ⟨m', hr, rfl, rfl, rfl, rfl, Nat.le_refl _⟩
    · by_cases hrr : r = rb
      · subst hrr
        rw [hm] at hr; injection hr with hr; subst hr
        exact World.cell?_setCells_out r ns _ w ⟨r, o, none⟩ (fun _ _ => .inl ho)
      · exact c.cell r o (im_lt h hr) hrr
    · by_cases hrr : r = rb
      · subst hrr; exact c.shape et n hs
      · have := c.obj r (shape_lt hs) hrr
        simp only [World.shape?] at hs ⊢
        rw [this]; exact hs
  have hne : ∀ b o r, s.blk.get b = some o → G.io b = some r → r ≠ rb := by
    intro b o r hb hr
    rintro rfl
    rw [h.apart b o r hb hr] at hm; cases hm
  refine ⟨⟨?_, h.inj, h.new, ?_, h.even, ?_, ?_, ?_, ?_, Nat.le_trans h.le c.size⟩, x, ⟨Nat.le_refl _, Nat.le_refl _, fun b hb hg => ⟨hg, rfl⟩, hmono⟩⟩
  · intro b o r hb hr
    have hrn := hne b o r hb hr
    cases h.blk b o r hb hr with
    | cells cs _ vs et size h' h1 hc hs hl hf =>
      refine .cells cs r vs et size (h'.ext x) h1 (fun j v hj => by rw [c.cell r _ (h.lt b r hr).1 hrn]; exact hc j v hj) (x.shape _ _ _ hs) hl (fun o ho => ?_)
      rw [World.frozen?_setCells]; exact hf o ho
    | bld t cs _ vs h' h1 hc hs hf =>
      refine .bld t cs r vs (h'.ext x) h1 (fun j v hj => by rw [c.cell r _ (h.lt b r hr).1 hrn]; exact hc j v hj) (x.shape _ _ _ hs) (fun o ho => ?_)
      rw [World.frozen?_setCells]; exact hf o ho
    | map es cl _ rs h' hw => exact .map es cl r rs (h'.ext x) (by rw [c.obj r (h.lt b r hr).1 hrn]; exact hw)
    | miter m since seen last _ rm hm' hw =>
      refine .miter m since seen last r rm ?_ (by rw [c.obj r (h.lt b r hr).1 hrn]; exact hw)
      rcases hm' with hm' | ⟨b, r, h1, h2, h3⟩
      · exact .inl hm'
      · exact .inr ⟨b, r, h1, h2, h3⟩
  · intro t htn
    have hlt := hi.tok
    show (s.top.put tok (T + k)).get t = none
    have htn' : s.nt ≤ t := htn
    rw [Tr.put_other _ _ (by omega)]; exact h.newt t htn
  · intro b o r hb hr
    rw [himn, if_neg (hne b o r hb hr)]; exact h.apart b o r hb hr
  · intro r m' hr
    rw [himn] at hr
    by_cases hrr : r = rb
    · subst hrr
      rw [if_pos rfl] at hr; injection hr with hr; subst hr
      obtain ⟨arr, et, lo, hi', hb, hsz, hhi, hty⟩ := hi.blk
      obtain ⟨arr', k1, k2⟩ := setCells_blk (vs := ns) (o := m.filled * m.z) hb
      refine ⟨hi.z, hfit, ⟨arr', et, lo, hi', k1, by rw [k2]; exact hsz, Nat.le_trans hhi (Nat.mul_le_mul_right _ (Nat.le_add_right _ _)), hty⟩, ⟨T + k, ?_, by show m.c0 + (m.filled + k) ≤ T + k; omega⟩, hi.tok, hi.base⟩
      show (s.top.put tok (T + k)).get m.tok = some (T + k)
      rw [ht]; exact Tr.put_same _ _ _
    · rw [if_neg hrr] at hr
      exact ((h.im r m' hr).chgAt c hrr).top_mono hmono (Nat.le_refl _)
  · exact fun b r hr => ⟨Nat.lt_of_lt_of_le (h.lt b r hr).1 c.size, (h.lt b r hr).2⟩
  · exact h.below.trans ⟨c.os, c.tape, c.output, c.size, fun q hq => c.obj q (by have := h.le; omega) (by have := hi.base; omega)⟩
/-- append to an immutable slice -/
theorem app_vsl {t tx ty el : TypeId} {i : TypeInfo} {rz : Value} {z tok st T : Nat} {xs ys : List AV} {rx ry : Value} {news : List Value} (h : SR U ρ B w0 G s w) (ht : P.underlying t = some (.slice el)) (hi : P.info? el = some i) (hz : i.zero = some rz) (hzs : rz.cells.size = i.size) (hb : i.bytes ≤ 65536) (hiz : i.size = z) (hzp : 0 < z)
    (hx : VR ρ G w (.lst (.vsl z tok st none) xs) rx) (hsrc : Src P z tx ry ys.length news w) (hv : VRs ρ G w (flat ys) news) (h1 : ones (flat ys)) (hel : ∀ x ∈ ys, (cellsOf x).length = z) (h24 : xs.length + ys.length ≤ 16777216)
    (hT : s.top.get tok = some T) (hTe : T = st + xs.length) (hu : tok % 2 = 1 → el = U) (hne : 0 < ys.length) :
    ∃ r w' G', (Builtin.append_ #[t, tx] ty #[rx, ry]).run P w = .ok r w' ∧ SR U ρ B w0 G' { s with top := s.top.put tok (T + ys.length) } w' ∧ Ext G w G' w' ∧ Nxt G s G' { s with top := s.top.put tok (T + ys.length) } ∧ VR ρ G' w' (.lst (.vsl z tok st none) (xs ++ ys)) r := by
  cases hx with
  | vsl _ _ _ rb rcap o _ _ vs m hm hzz htk h0 hf hl hvs o1 hc hcap hxc htot ho =>
    have hvl := hvs.length
    rw [flat_length hl] at hvl
    have him := h.im rb m hm
    obtain ⟨T', hT', hTle⟩ := him.top
    rw [htk, hT] at hT'; injection hT' with hT'; subst hT'
    have hend : m.c0 + m.filled = T := by omega
    have hfill : m.filled = st - m.c0 + xs.length := by omega
    have hnl := hsrc.newsLen
    have hall : ∀ x ∈ xs ++ ys, (cellsOf x).length = z := by
      intro x hx
      rcases List.mem_append.1 hx with hx | hx
      · exact hl x hx
      · exact hel x hx
    have hlenE : (xs ++ ys).length = xs.length + ys.length := by simp
    rcases Nat.lt_or_ge rcap (xs.length + ys.length) with hgrow | hroom
    · -- a new row
      have hcc : w.rangeAt rb o vs ∨ vs = [] := by
        rcases Nat.eq_zero_or_pos rcap with h0' | h0'
        · right
          have : xs.length = 0 := by omega
          rw [this] at hvl
          exact List.eq_nil_of_length_eq_zero (by omega)
        · left; rw [ho h0']; exact hc
      obtain ⟨f1, f2⟩ := run_firstCells_ok (P := P) (c := rcap) hvl hcc
      subst hiz
      obtain ⟨rcap', arr, w', g1, g2, g3, g4, g5, g6, g7⟩ := grow_run (ty := ty) (base := some ⟨rb, o, none⟩) ht hi hz hzs hb f2 hsrc hvl hgrow h24
      let m' : Imm := { z := i.size, tok := tok, c0 := st, filled := xs.length + ys.length, total := arr.size }
      have hmono : ∀ t T', s.top.get t = some T' → ∃ T'', (s.top.put tok (T + ys.length)).get t = some T'' ∧ T' ≤ T'' := by
        intro t T' e
        by_cases htt : t = tok
        · subst htt
          rw [hT] at e; injection e with e; subst e
          exact ⟨T + ys.length, Tr.put_same _ _ _, by omega⟩
        · exact ⟨T', by rw [Tr.put_other _ _ htt]; exact e, Nat.le_refl _⟩
      have hs2 : SR U ρ B w0 G { s with top := s.top.put tok (T + ys.length) } w := by
        refine ⟨h.blk, h.inj, h.new, ?_, h.even, h.apart, fun r mm hr => (h.im r mm hr).top_mono hmono (Nat.le_refl _), h.lt, h.below, h.le⟩
        intro t htn
        have htn' : s.nt ≤ t := htn
        have := him.tok
        show (s.top.put tok (T + ys.length)).get t = none
        rw [Tr.put_other _ _ (by omega)]; exact h.newt t htn
      have him' : IM U B { s with top := s.top.put tok (T + ys.length) } w' w.heap.size m' := {
        z := hzp
        fit := Nat.le_trans (Nat.mul_le_mul_right _ g6) g7
        blk := ⟨arr, el, 0, 0, g4, rfl, Nat.zero_le _, hu⟩
        top := ⟨T + ys.length, Tr.put_same _ _ _, by show st + (xs.length + ys.length) ≤ T + ys.length; omega⟩
        tok := by have := him.tok; rw [htk] at this; exact this
        base := h.le }
      have hx' := Ext.row (m := m') h g2 (Nat.le_refl _)
      refine ⟨_, w', G.row w.heap.size m', g1, hs2.row g2 (Nat.le_refl _) him', hx', ⟨Nat.le_refl _, Nat.le_refl _, fun b hb hg => ⟨hg, rfl⟩, hmono⟩, ?_⟩
      have hio : (G.row w.heap.size m').im w.heap.size = some m' := by simp [Gh.row]
      have key := VR.vsl (ρ := ρ) (G := G.row w.heap.size m') (w := w') i.size tok st w.heap.size rcap' 0 none (xs ++ ys) (vs ++ news) m' hio rfl rfl (Nat.le_refl _) (by show st - st + (xs ++ ys).length ≤ xs.length + ys.length; rw [hlenE]; omega) hall
        (by rw [flat_append]; exact (hvs.append hv).ext hx') (by rw [flat_append]; exact ones_append.2 ⟨o1, h1⟩)
        (by
          intro j v hj
          have := g5 j v hj
          simp only [World.cell?, g4]
          simpa [m'] using this) (by rw [hlenE]; exact g6) (fun c hc => by cases hc) (by show (st - st + rcap') * i.size ≤ arr.size; simpa using g7) (fun _ => by show 0 = (st - st) * i.size; simp)
      rw [hlenE] at key
      exact key
    · -- there is room
      have hpos : 0 < rcap := by omega
      have ho' := ho hpos
      subst ho'
      have hfz : (st - m.c0) * z + xs.length * z = m.filled * m.z := by rw [← Nat.add_mul, hzz, ← hfill]
      have hfit : (m.filled + ys.length) * m.z ≤ m.total := by
        rw [hzz]
        refine Nat.le_trans (Nat.mul_le_mul_right _ ?_) htot
        omega
      obtain ⟨arr, et, lo, hi', hblk, hsz, hhi, hty⟩ := him.blk
      have hns : news.length = ys.length * m.z := by rw [hzz]; exact hnl
      have hcell : ∀ j, j < news.length → (w.cell? ⟨rb, (st - m.c0) * z + xs.length * i.size + j, none⟩).isSome = true := by
        intro j hj
        have hlt : (st - m.c0) * z + xs.length * i.size + j < arr.size := by
          rw [hiz, hfz, hsz]
          have : (m.filled + ys.length) * m.z = m.filled * m.z + ys.length * m.z := Nat.add_mul _ _ _
          omega
        simp [World.cell?, hblk, hlt]
      have hfree : ∀ j, j < news.length → w.frozen? ⟨rb, (st - m.c0) * z + xs.length * i.size + j, none⟩ = false := by
        intro j hj
        exact him.free _ (by rw [hiz, hfz]; omega)
      have hrun := run_append_room_src w t tx ty el i ht hi rb ((st - m.c0) * z) xs.length rcap ry ys.length news (by rw [hiz]; exact hsrc) hroom hcell hfree
      rw [hiz, hfz] at hrun
      obtain ⟨k1, k2, k3⟩ := SR.fill (k := ys.length) (ns := news) h hm htk hT hend hns hfit
      refine ⟨_, _, _, hrun, k1, k2, k3, ?_⟩
      have hio : (G.row rb { m with filled := m.filled + ys.length }).im rb = some { m with filled := m.filled + ys.length } := by simp [Gh.row]
      have key := VR.vsl (ρ := ρ) (G := G.row rb { m with filled := m.filled + ys.length }) (w := w.setCells rb (m.filled * m.z) news) z tok st rb rcap ((st - m.c0) * z) none (xs ++ ys) (vs ++ news) _ hio hzz htk h0 (by show st - m.c0 + (xs ++ ys).length ≤ m.filled + ys.length; rw [hlenE]; omega) hall
        (by rw [flat_append]; exact (hvs.append hv).ext k2) (by rw [flat_append]; exact ones_append.2 ⟨o1, h1⟩)
        (by
          show (w.setCells rb (m.filled * m.z) news).rangeAt rb ((st - m.c0) * z) (vs ++ news)
          intro j v hj
          rcases Nat.lt_or_ge j vs.length with hj' | hj'
          · rw [List.getElem?_append_left hj'] at hj
            rw [World.cell?_setCells_out rb news _ w ⟨rb, (st - m.c0) * z + j, none⟩ (fun _ _ => .inl (by simp only; omega))]
            exact hc j v hj
          · rw [List.getElem?_append_right hj'] at hj
            obtain ⟨d, rfl⟩ : ∃ d, j = vs.length + d := ⟨j - vs.length, by omega⟩
            have e1 : vs.length + d - vs.length = d := by omega
            rw [e1] at hj
            have hd := (List.getElem?_eq_some_iff.1 hj).1
            have e2 : (st - m.c0) * z + (vs.length + d) = m.filled * m.z + d := by rw [hvl]; omega
            rw [e2, World.cell?_setCells_in rb news (m.filled * m.z) w (fun q hq => by have := hcell q hq; rw [hiz, hfz] at this; exact this) d hd]
            rw [List.getElem?_eq_getElem hd] at hj; exact hj) (by rw [hlenE]; exact hroom) (fun c hc => by cases hc) (by show (st - m.c0 + rcap) * z ≤ m.total; exact htot) (fun _ => rfl)
      rw [hlenE] at key
      exact key
end
end Den

set_option autoImplicit false
set_option linter.unusedVariables false
set_option linter.unusedSimpArgs false
namespace Den
open Go Go.RowKit
section
variable {ρ : Vl} {G : Gh} {w w' w0 : World} {P : Program} {U : TypeId} {e : Env} {a : Act} {B : Nat} {s : St}
/-- blocks that are left out -/
theorem SR.less {s' : St} (h : SR U ρ B w0 G s w) (hb : ∀ b o, s'.blk.get b = some o → s.blk.get b = some o) (hn : s'.nb = s.nb) (ht : s'.nt = s.nt) (htop : s'.top = s.top) : SR U ρ B w0 G s' w where
  blk b o rb hg hr := h.blk b o rb (hb b o hg) hr
  inj b b' o o' rb hg hg' := h.inj b b' o o' rb (hb b o hg) (hb b' o' hg')
  new b hbn := by
    obtain ⟨h1, h2⟩ := h.new b (by omega)
    refine ⟨h1, ?_⟩
    cases hg : s'.blk.get b with
    | none => rfl
    | some o => rw [hb b o hg] at h2; cases h2
  newt t htn := by rw [htop]; exact h.newt t (by omega)
  even := by rw [ht]; exact h.even
  apart b o rb hg hr := h.apart b o rb (hb b o hg) hr
  im rb m hm := by
    have hi := h.im rb m hm
    exact ⟨hi.z, hi.fit, hi.blk, by rw [htop]; exact hi.top, by rw [ht]; exact hi.tok, hi.base⟩
  lt := h.lt
  below := h.below
  le := h.le
theorem get_del {s : St} {b : Nat} : ∀ x o, (s.blk.del b).get x = some o → x ≠ b ∧ s.blk.get x = some o := by
  intro x o hx
  rw [Tr.get_del] at hx
  by_cases h : b = x
  · rw [if_pos h] at hx; cases hx
  · rw [if_neg h] at hx; exact ⟨Ne.symm h, hx⟩
/-- a block takes a new number -/
theorem sr_rename {b rb : Nat} {o : AObj} {s1 : St} (h : SR U ρ B w0 G s w) (hb : G.io b = some rb) (hg : s.blk.get b = some o) (h1 : ∀ x q, s1.blk.get x = some q → x ≠ b ∧ s.blk.get x = some q) (hn : s1.nb = s.nb) (ht : s1.nt = s.nt) (htop : s1.top = s.top) :
    SR U ρ B w0 (G.own s.nb rb) (newBlk s1 o) w ∧ Ext G w (G.own s.nb rb) w := by
  have hio : G.io s.nb = none := (h.new _ (Nat.le_refl _)).1
  have hx : Ext G w (G.own s.nb rb) w := Ext.own h (Chg0.refl w) hio
  have ioE : ∀ x, (G.own s.nb rb).io x = if x = s.nb then some rb else G.io x := fun x => rfl
  have getE : ∀ x, (newBlk s1 o).blk.get x = if s.nb = x then some o else s1.blk.get x := by
    intro x; show (s1.blk.put s1.nb o).get x = _
    rw [Tr.get_put, hn]
  have orx : ∀ {q : AObj} {r : Nat}, OR ρ G w q r → OR ρ (G.own s.nb rb) w q r := by
    intro q r hq
    cases hq with
    | cells cs _ vs et size h h1 hc hs hl hf => exact .cells cs r vs et size (h.ext hx) h1 hc hs hl hf
    | bld t cs _ vs h h1 hc hs hf => exact .bld t cs r vs (h.ext hx) h1 hc hs hf
    | map es cl _ rs h hw => exact .map es cl r rs (h.ext hx) hw
    | miter m since seen last _ rm hm hw =>
      refine .miter m since seen last r rm ?_ hw
      rcases hm with hm | ⟨b, r, h1, h2, h3⟩
      · exact .inl hm
      · exact .inr ⟨b, r, h1, h2, hx.io _ _ h3⟩
  refine ⟨⟨?_, ?_, ?_, ?_, ?_, ?_, ?_, ?_, h.below, h.le⟩, hx⟩
  · intro x q r hq hr
    rw [getE] at hq; rw [ioE] at hr
    by_cases hxn : x = s.nb
    · subst hxn
      rw [if_pos rfl] at hq hr
      injection hq with hq; subst hq
      injection hr with hr; subst hr
      exact orx (h.blk b o rb hg hb)
    · rw [if_neg (Ne.symm hxn)] at hq; rw [if_neg hxn] at hr
      exact orx (h.blk x q r (h1 x q hq).2 hr)
  · intro x x' q q' r hq hq' hr hr'
    rw [getE] at hq hq'; rw [ioE] at hr hr'
    by_cases hxn : x = s.nb <;> by_cases hxn' : x' = s.nb
    · rw [hxn, hxn']
    · rw [if_pos hxn] at hr; rw [if_neg hxn'] at hr'; rw [if_neg (Ne.symm hxn')] at hq'
      injection hr with hr; subst hr
      obtain ⟨k1, k2⟩ := h1 x' q' hq'
      exact absurd (h.inj x' b q' o rb k2 hg hr' hb) k1
    · rw [if_neg hxn] at hr; rw [if_pos hxn'] at hr'; rw [if_neg (Ne.symm hxn)] at hq
      injection hr' with hr'; subst hr'
      obtain ⟨k1, k2⟩ := h1 x q hq
      exact absurd (h.inj x b q o rb k2 hg hr hb) k1
    · rw [if_neg hxn] at hr; rw [if_neg hxn'] at hr'; rw [if_neg (Ne.symm hxn)] at hq; rw [if_neg (Ne.symm hxn')] at hq'
      exact h.inj x x' q q' r (h1 x q hq).2 (h1 x' q' hq').2 hr hr'
  · intro x hxn
    have hxn' : s1.nb + 1 ≤ x := hxn
    rw [hn] at hxn'
    rw [ioE, getE, if_neg (by omega), if_neg (by omega)]
    obtain ⟨k1, k2⟩ := h.new x (by omega)
    refine ⟨k1, ?_⟩
    cases hq : s1.blk.get x with
    | none => rfl
    | some q => rw [(h1 x q hq).2] at k2; cases k2
  · intro t htn
    have : s1.nt ≤ t := htn
    show s1.top.get t = none
    rw [htop]; exact h.newt t (by omega)
  · show s1.nt % 2 = 0
    rw [ht]; exact h.even
  · intro x q r hq hr
    rw [getE] at hq; rw [ioE] at hr
    by_cases hxn : x = s.nb
    · rw [if_pos hxn] at hr; injection hr with hr; subst hr
      exact h.apart b o rb hg hb
    · rw [if_neg (Ne.symm hxn)] at hq; rw [if_neg hxn] at hr
      exact h.apart x q r (h1 x q hq).2 hr
  · intro r m hm
    have hi := h.im r m hm
    exact ⟨hi.z, hi.fit, hi.blk, by show ∃ T, s1.top.get m.tok = some T ∧ _; rw [htop]; exact hi.top, by show m.tok < s1.nt; rw [ht]; exact hi.tok, hi.base⟩
  · intro x r hr
    rw [ioE] at hr
    by_cases hxn : x = s.nb
    · rw [if_pos hxn] at hr; injection hr with hr; subst hr
      exact h.lt b rb hb
    · rw [if_neg hxn] at hr; exact h.lt x r hr
/-- append in heap mode, no room in the abstract -/
theorem app_hslG {t tx ty el : TypeId} {i : TypeInfo} {rz : Value} {z b n cap : Nat} {cs ys : List AV} {rx ry : Value} {news : List Value} (h : SR U ρ B w0 G s w) (ht : P.underlying t = some (.slice el)) (hi : P.info? el = some i) (hz : i.zero = some rz) (hzs : rz.cells.size = i.size) (hb : i.bytes ≤ 65536) (hiz : i.size = z) (hzp : 0 < z)
    (hx : VR ρ G w (.ref (.hsl z b 0 n cap)) rx) (hsrc : Src P z tx ry ys.length news w) (hv : VRs ρ G w (flat ys) news) (h1 : ones (flat ys)) (hel : ∀ x ∈ ys, (cellsOf x).length = z) (h24 : n + ys.length ≤ 16777216)
    (hcs : cellsAt s b = some cs) (hcl : cs.length = n * z) (hne : 0 < ys.length) :
    ∃ r w' G', (Builtin.append_ #[t, tx] ty #[rx, ry]).run P w = .ok r w' ∧ SR U ρ B w0 G' (newBlk { s with blk := s.blk.del b } (.cells (cs ++ flat ys))) w' ∧ Ext G w G' w' ∧ Nxt G s G' (newBlk { s with blk := s.blk.del b } (.cells (cs ++ flat ys))) ∧
      VR ρ G' w' (.ref (.hsl z s.nb 0 (n + ys.length) (n + ys.length))) r := by
  cases hx with
  | hsl _ _ _ _ _ rb rcap et size o hio hzp h1' h2 hs' h3 ho =>
    obtain ⟨us, et', size', k1, k2, k3, k4, k5, k6⟩ := cellsAt_ok h hcs hio
    have hsz : size' = size := by rw [hs'] at k4; injection k4 with k4; injection k4 with _ k4; exact k4.symm
    subst hsz
    have hul := k1.length
    obtain ⟨ob, hg⟩ := cellsAt_blk hcs
    have hnl := hsrc.newsLen
    have hbn : b < s.nb := by
      rcases Nat.lt_or_ge b s.nb with h' | h'
      · exact h'
      · rw [(h.new b h').1] at hio; cases hio
    have hnb : G.io s.nb = none := (h.new _ (Nat.le_refl _)).1
    have nxt : ∀ (rb' : Nat), Nxt G s (G.own s.nb rb') (newBlk { s with blk := s.blk.del b } (.cells (cs ++ flat ys))) := by
      intro rb'
      refine ⟨Nat.le_succ _, Nat.le_refl _, fun x hx hxg => ⟨?_, ?_⟩, fun t T e => ⟨T, e, Nat.le_refl _⟩⟩
      · show (if x = s.nb then some rb' else G.io x) = none
        rw [if_neg (by omega)]; exact hxg
      · show ((s.blk.del b).put s.nb _).get x = s.blk.get x
        rw [Tr.put_other _ _ (by omega), Tr.get_del, if_neg]
        rintro rfl; rw [hio] at hxg; cases hxg
    rcases Nat.lt_or_ge rcap (n + ys.length) with hgrow | hroom
    · have hcc : w.rangeAt rb o us ∨ us = [] := by
        rcases Nat.eq_zero_or_pos rcap with h0' | h0'
        · right
          have : n = 0 := by omega
          subst this
          exact List.eq_nil_of_length_eq_zero (by omega)
        · left; rw [ho h0']; exact k3
      obtain ⟨f1, f2⟩ := run_firstCells_ok (P := P) (c := rcap) (n := n) (z := z) (by omega) hcc
      subst hiz
      obtain ⟨rcap', arr, w', g1, g2, g3, g4, g5, g6, g7⟩ := grow_run (ty := ty) (base := some ⟨rb, o, none⟩) ht hi hz hzs hb f2 hsrc (by omega) hgrow h24
      have hs2 : SR U ρ B w0 G { s with blk := s.blk.del b } w := h.less (fun x q hq => (get_del x q hq).2) rfl rfl rfl
      have hvv : VRs ρ G w (cs ++ flat ys) (us ++ news) := k1.append hv
      obtain ⟨q1, q2, q3⟩ := new_block (o := .cells (cs ++ flat ys)) hs2 g2 g3 (OR.fresh (vs := us ++ news) g4 g5 (by have := hvv.length; simp only [List.length_append] at this ⊢; have : (n + ys.length) * i.size ≤ rcap' * i.size := Nat.mul_le_mul_right _ g6; rw [Nat.add_mul] at this; omega) (.inl (Nat.le_refl _)) (hvv.ext (Ext.own hs2 g2 hnb)) (ones_append.2 ⟨k2, h1⟩))
      refine ⟨_, w', _, g1, q1, q2, nxt _, ?_⟩
      exact .hsl i.size s.nb 0 (n + ys.length) (n + ys.length) w.heap.size rcap' el arr.size 0 (own_io _ _ _) hzp (Nat.le_refl _) g6 (by simp [World.shape?, g4]) (by omega) (fun _ => rfl)
    · have hpos : 0 < rcap := by omega
      have ho' := ho hpos
      subst ho'
      have hroomz : (n + ys.length) * z ≤ rcap * z := Nat.mul_le_mul_right _ hroom
      rw [Nat.add_mul] at hroomz
      have hcell : ∀ j, j < news.length → (w.cell? ⟨rb, 0 + n * i.size + j, none⟩).isSome = true := by
        intro j hj
        rw [hiz]
        have hlt : 0 + n * z + j < size' := by omega
        simp only [World.shape?] at k4
        split at k4
        · rename_i c el fr hw
          injection k4 with k4
          simp only [Prod.mk.injEq] at k4
          obtain ⟨_, rfl⟩ := k4
          simp only [World.cell?, hw]
          simp [hlt]
          omega
        · cases k4
      have hfree : ∀ j, j < news.length → w.frozen? ⟨rb, 0 + n * i.size + j, none⟩ = false := by
        intro j hj
        exact k6 _ (by rw [hiz]; omega)
      have hrun := run_append_room_src w t tx ty el i ht hi rb 0 n rcap ry ys.length news (by rw [hiz]; exact hsrc) hroom hcell hfree
      rw [hiz, Nat.zero_add] at hrun
      have c := setCells_chg rb news (n * z) w
      have x := ChgAt.ext h hio hg c
      have hor : OR ρ G (w.setCells rb (n * z) news) (.cells (cs ++ flat ys)) rb := by
        refine .cells _ rb (us ++ news) et' size' ((k1.append hv).ext x) (ones_append.2 ⟨k2, h1⟩) ?_ (c.shape _ _ k4) (by simp; omega) (fun o ho => by rw [World.frozen?_setCells]; exact k6 o ho)
        intro j v hj
        rw [Nat.zero_add]
        rcases Nat.lt_or_ge j us.length with hj' | hj'
        · rw [List.getElem?_append_left hj'] at hj
          rw [World.cell?_setCells_out rb news _ w ⟨rb, j, none⟩ (fun _ _ => .inl (by simp only; omega))]
          have := k3 j v hj
          rw [Nat.zero_add] at this; exact this
        · rw [List.getElem?_append_right hj'] at hj
          obtain ⟨d, rfl⟩ : ∃ d, j = us.length + d := ⟨j - us.length, by omega⟩
          have e1 : us.length + d - us.length = d := by omega
          rw [e1] at hj
          have hd := (List.getElem?_eq_some_iff.1 hj).1
          have e2 : us.length + d = n * z + d := by omega
          rw [e2, World.cell?_setCells_in rb news (n * z) w (fun q hq => by have := hcell q hq; rw [hiz, Nat.zero_add] at this; exact this) d hd]
          rw [List.getElem?_eq_getElem hd] at hj; exact hj
      obtain ⟨q1, q2, q3⟩ := h.upd hio hg c hor
      obtain ⟨r1, r2⟩ := sr_rename (s1 := { s with blk := s.blk.del b }) q1 hio (Tr.put_same _ _ _) (fun x q hq => by
        obtain ⟨y1, y2⟩ := get_del x q hq
        exact ⟨y1, by show (s.blk.put b _).get x = some q; rw [Tr.put_other _ _ y1]; exact y2⟩) rfl rfl rfl
      refine ⟨_, _, _, hrun, r1, q2.trans r2, nxt rb, ?_⟩
      exact .hsl z s.nb 0 (n + ys.length) (n + ys.length) rb rcap et' size' 0 (own_io _ _ _) hzp (Nat.le_refl _) hroom (c.shape _ _ k4) h3 (fun _ => rfl)
end
end Den

set_option autoImplicit false
set_option linter.unusedVariables false
set_option linter.unusedSimpArgs false
namespace Den
open Go Go.RowKit
section
variable {ρ : Vl} {G : Gh} {w w' w0 : World} {P : Program} {U : TypeId} {e : Env} {a : Act} {B : Nat} {s : St}
theorem e_app {dst : Option Nat} {type : TypeId} {pos : String} {aft : Array Edge} {g : Option (Nat × Bool)} {t tx el : TypeId} {heap ag : Bool} {z : Nat} {zc : List AV} {x y : Operand} {ox oy : Opd} {v : AV} {s' : St} (hs : SR U ρ B w0 G s w) (hx : VR ρ G w (ox.ev e) (a.eval x)) (hy : VR ρ G w (oy.ev e) (a.eval y))
    (ht : P.underlying t = some (.slice el)) (hfit : fits P el = some ()) (hsh : elemSh P el = some (ag, z)) (hz : elemZ P el = some zc) (hk : (∃ e', P.underlying tx = some (.slice e')) ∨ P.underlying tx = some .string)
    (h : evE e s (.app heap ag (flagU U el) z ox oy) = some (v, s')) : Does U ρ B w0 G s w v s' ((execOp a.eval ⟨dst, .call ⟨.builtin .append, #[x, y], #[t, tx]⟩, type, pos, aft, g⟩).run P w) := by
  simp only [evE] at h
  generalize ox.ev e = X at h hx
  generalize oy.ev e = Y at h hy
  obtain ⟨ha, hn, hzp, hag⟩ := elemSh_ok hsh
  obtain ⟨i, rz, hi, hz', hzl, hzs, hzo, hzv⟩ := elemZ_ok hz
  obtain ⟨i', hi', hby⟩ := fits_ok hfit
  rw [hi] at hi'; injection hi' with hi'; subst hi'
  have hiz : i.size = z := by simpa [tySz, hi] using hn
  subst hiz
  unfold appV at h
  split at h
  · cases h
  rename_i ys hys
  obtain ⟨news, hsrc, hv, h1, hel⟩ := items_ok (P := P) hs hzp hag hk hy hys
  split at h
  · cases h
  rename_i h24
  have h24' := Nat.le_of_ble_eq_true h24
  rw [len_eq] at h24'
  have same : ∀ {base : Option Addr} {sl sc : Nat}, ys = [] → a.eval x = .slice base sl sc → sl ≤ sc → Does U ρ B w0 G s w X s ((execOp a.eval ⟨dst, .call ⟨.builtin .append, #[x, y], #[t, tx]⟩, type, pos, aft, g⟩).run P w) := by
    intro base sl sc hnil hxe hle
    subst hnil
    refine does_call (w' := w) (G' := G) (rv := a.eval x) (app_call ?_) ⟨hs, Ext.refl _ _, Nxt.refl _ _⟩ hx
    rw [hxe]
    exact nothing_run ht hi hsrc hle
  split at h
  · -- nil
    generalize hr : a.eval x = rx at hx
    cases hx
    split at h
    · injection h with h
      simp only [Prod.mk.injEq] at h
      obtain ⟨rfl, rfl⟩ := h
      rw [hr] at same
      exact same rfl rfl (Nat.le_refl _)
    · rename_i hne
      injection h with h
      have hpos : 0 < ys.length := by
        cases ys with
        | nil => exact absurd rfl hne
        | cons => simp
      simp only [lenV, Nat.zero_add] at h24'
      obtain ⟨rcap', arr, w', g1, g2, g3, g4, g5, g6, g7⟩ := grow_run (ty := type) (base := none) (sLen := 0) (sCap := 0) (olds := []) ht hi hz' hzs hby (run_firstCells_none w.drew i.size 0 0 0) hsrc (by simp) (by omega) (by omega)
      rw [Nat.zero_add] at g1 g6
      obtain ⟨G', q1, q2, q3, q4⟩ := new_slice (heap := heap) hs (flagU_le el) hzp hel rfl hv h1 g2 g3 g4 g5 g6 g7 flagU_one
      rw [h] at q1 q3 q4
      exact does_call (app_call (by rw [hr]; exact g1)) ⟨q1, q2, q3⟩ q4
  · rename_i z' tok st xc xs
    split at h
    · cases h
    rename_i hzz
    have hz'' := Nat.eq_of_beq_eq_true hzz
    subst hz''
    split at h
    · injection h with h
      simp only [Prod.mk.injEq] at h
      obtain ⟨rfl, rfl⟩ := h
      generalize hr : a.eval x = rx at hx
      cases hx with
      | vsl _ _ _ rb rcap o _ _ vs m hm hzz htk h0 hf hl hvs o1 hc hcap hxc htot ho =>
        rw [hr] at same
        exact same rfl rfl hcap
    · rename_i hne
      have hpos : 0 < ys.length := by
        cases ys with
        | nil => exact absurd rfl hne
        | cons => simp
      simp only [lenV, len_eq] at h24'
      split at h
      · rename_i c
        split at h
        · cases h
        rename_i hbig
        injection h with h
        rw [len_eq, len_eq] at hbig
        have hbig' : c < xs.length + ys.length := by
          rcases Nat.lt_or_ge c (xs.length + ys.length) with h' | h'
          · exact h'
          · rw [Nat.ble_eq_true_of_le h'] at hbig; cases hbig
        generalize hr : a.eval x = rx at hx
        cases hx with
        | vsl _ _ _ rb rcap o _ _ vs m hm hzz htk h0 hf hl hvs o1 hc hcap hxc htot ho =>
          have hrc := hxc c rfl
          have hvl := hvs.length
          rw [flat_length hl] at hvl
          have hcc : w.rangeAt rb o vs ∨ vs = [] := by
            rcases Nat.eq_zero_or_pos rcap with h0' | h0'
            · right
              have : xs.length = 0 := by omega
              rw [this] at hvl
              exact List.eq_nil_of_length_eq_zero (by omega)
            · left; rw [ho h0']; exact hc
          obtain ⟨f1, f2⟩ := run_firstCells_ok (P := P) (c := rcap) hvl hcc
          obtain ⟨rcap', arr, w', g1, g2, g3, g4, g5, g6, g7⟩ := grow_run (ty := type) (base := some ⟨rb, o, none⟩) ht hi hz' hzs hby f2 hsrc hvl (by omega) h24'
          obtain ⟨G', q1, q2, q3, q4⟩ := new_slice (heap := heap) (xs := xs ++ ys) hs (flagU_le el) hzp (by
            intro x hx
            rcases List.mem_append.1 hx with hx | hx
            · exact hl x hx
            · exact hel x hx) (by simp) (by rw [flat_append]; exact hvs.append hv) (by rw [flat_append]; exact ones_append.2 ⟨o1, h1⟩) g2 g3 g4 g5 g6 g7 flagU_one
          rw [h] at q1 q3 q4
          exact does_call (app_call (by rw [hr]; exact g1)) ⟨q1, q2, q3⟩ q4
      · split at h
        · rename_i T hT
          split at h
          · rename_i hb
            simp only [Bool.and_eq_true] at hb
            obtain ⟨b1, b2⟩ := hb
            rw [len_eq] at b1
            have hTe := Nat.eq_of_beq_eq_true b1
            have hpar := Nat.eq_of_beq_eq_true b2
            injection h with h
            simp only [Prod.mk.injEq] at h
            obtain ⟨rfl, rfl⟩ := h
            rw [len_eq]
            obtain ⟨r, w', G', q1, q2, q3, q4, q5⟩ := app_vsl (ty := type) hs ht hi hz' hzs hby rfl hzp hx hsrc hv h1 hel h24' hT hTe (fun h => flagU_one (by rw [← hpar]; exact h)) hpos
            exact does_call (app_call q1) ⟨q2, q3, q4⟩ q5
          · cases h
        · cases h
  · rename_i z' b off n cap
    split at h
    · cases h
    rename_i hzz
    have hz'' := Nat.eq_of_beq_eq_true hzz
    subst hz''
    split at h
    · injection h with h
      simp only [Prod.mk.injEq] at h
      obtain ⟨rfl, rfl⟩ := h
      generalize hr : a.eval x = rx at hx
      cases hx with
      | hsl _ _ _ _ _ rb rcap et size o hb hz h1 h2 hs' h3 ho =>
        rw [hr] at same
        exact same rfl rfl (by omega)
    · rename_i hne
      have hpos : 0 < ys.length := by
        cases ys with
        | nil => exact absurd rfl hne
        | cons => simp
      simp only [lenV] at h24'
      split at h
      · cases h
      rename_i cs hcs
      simp only [len_eq] at h
      split at h
      · rename_i hroom
        have hroom' := Nat.le_of_ble_eq_true hroom
        split at h
        · rename_i cs' hset
          injection h with h
          simp only [Prod.mk.injEq] at h
          obtain ⟨rfl, rfl⟩ := h
          generalize hr : a.eval x = rx at hx
          cases hx with
          | hsl _ _ _ _ _ rb rcap et size o hb hz h1' h2 hs' h3 ho =>
            have ho' := ho (by omega)
            subst ho'
            obtain ⟨k1, k2⟩ := store_ok (P := P) hs hb hcs hset hv h1
            obtain ⟨us, et', size', j1, j2, j3, j4, j5, j6⟩ := cellsAt_ok hs hcs hb
            obtain ⟨l1, l2, l3, l4⟩ := setAt_ok hset j1 hv j2 h1
            have hrun := run_append_room_src w t tx type el i ht hi rb o n rcap (a.eval y) ys.length news hsrc (by omega)
              (fun j hj => by
                have hlt : o + n * i.size + j < us.length := by omega
                have := j3 (o + n * i.size + j) us[o + n * i.size + j] (by simp [hlt])
                rw [Nat.zero_add] at this
                rw [this]; rfl)
              (fun j hj => j6 _ (by omega))
            refine does_call (app_call (by rw [hr]; exact hrun)) k2 ?_
            exact .hsl i.size b o (n + ys.length) cap rb rcap et size o hb hz hroom' h2 (k2.2.1.shape _ _ _ hs') h3 (fun _ => rfl)
        · cases h
      · split at h
        · rename_i hcl
          have hcl' := Nat.eq_of_beq_eq_true hcl
          injection h with h
          simp only [Prod.mk.injEq] at h
          obtain ⟨rfl, rfl⟩ := h
          obtain ⟨r, w', G', q1, q2, q3, q4, q5⟩ := app_hslG (ty := type) hs ht hi hz' hzs hby rfl hzp hx hsrc hv h1 hel h24' hcs hcl' hpos
          exact does_call (app_call q1) ⟨q2, q3, q4⟩ q5
        · cases h
  · cases h
theorem two_of {α : Type} {A : Array α} {x y : α} (h : A.toList = [x, y]) : A = #[x, y] := Array.ext' (by simpa using h)
theorem cOpds_two {l : List Operand} {o p : Opd} (h : cOpds l = some [o, p]) : ∃ x y, l = [x, y] ∧ cOpd x = some o ∧ cOpd y = some p := by
  cases l with
  | nil => simp [cOpds] at h
  | cons x l =>
    simp only [cOpds] at h
    obtain ⟨q, t, h1, h2, h3⟩ := consO_some h
    simp only [List.cons.injEq] at h3
    obtain ⟨rfl, rfl⟩ := h3
    obtain ⟨y, rfl, h4⟩ := cOpds_one h2
    exact ⟨x, y, rfl, h1, h4⟩
theorem elemOfS_ok {t el : TypeId} (h : elemOfS P t = some el) : P.underlying t = some (.slice el) := by
  unfold elemOfS at h; split at h
  · injection h with h; subst h; assumption
  · cases h
theorem evE_real {heap : Bool} {o : Oper} {q : EOp} (hc : comp P U heap o = some (.e q)) (hr : Rd ρ G w e a o) (hs : SR U ρ B w0 G s w) {v : AV} {s' : St} (h : evE e s q = some (v, s')) : Does U ρ B w0 G s w v s' ((execOp a.eval o).run P w) := by
  obtain ⟨dst, op, type, pos, aft, g⟩ := o
  have hr' : ∀ x ∈ op.operands, ∀ ox, cOpd x = some ox → VR ρ G w (ox.ev e) (a.eval x) := hr
  cases op <;> simp only [comp, Option.bind_eq_bind, Option.bind_eq_some_iff, Option.pure_def, Option.some.injEq, reduceCtorEq, and_false, exists_false, K.e.injEq] at hc <;> simp only [Op.operands] at hr'
  case store t p x =>
    obtain ⟨n, hn, op, hp, ox, hx, rfl⟩ := hc
    exact e_st hs (hr' p (by simp) _ hp) (hr' x (by simp) _ hx) hn h
  case mapUpdate t m k x =>
    split at hc
    · rename_i kty el hu
      simp only [Option.bind_eq_some_iff, Option.some.injEq, K.e.injEq] at hc
      obtain ⟨kt, hkt, om, hm, ok, hk, ox, hx, rfl⟩ := hc
      exact e_mup hs (hr' m (by simp) _ hm) (hr' k (by simp) _ hk) (hr' x (by simp) _ hx) hu hkt h
    · cases hc
  case mapEntry t m k =>
    split at hc
    · rename_i kty el hu
      simp only [Option.bind_eq_some_iff, Option.some.injEq, K.e.injEq] at hc
      obtain ⟨kt, hkt, z, hz, om, hm, ok, hk, rfl⟩ := hc
      exact e_ment hs (hr' m (by simp) _ hm) (hr' k (by simp) _ hk) hu hkt hz h
    · cases hc
  case entryStore t m n x =>
    obtain ⟨om, hm, on, hn, ox, hx, rfl⟩ := hc
    exact e_mst hs (hr' m (by simp) _ hm) (hr' n (by simp) _ hn) (hr' x (by simp) _ hx) h
  case range t x =>
    split at hc
    · rename_i kk el hu
      simp only [Option.bind_eq_some_iff, Option.some.injEq, K.e.injEq] at hc
      obtain ⟨ox, hx, rfl⟩ := hc
      exact e_rng hs (hr' x (by simp) _ hx) hu h
    · cases hc
  case next x b =>
    cases b
    · simp only [Option.bind_eq_bind, Option.pure_def, Option.bind_eq_some_iff, Option.some.injEq, K.e.injEq] at hc
      obtain ⟨ox, hx, rfl⟩ := hc
      exact e_nxt hs (hr' x (by simp) _ hx) h
    · cases hc
  case makeMap t r => cases r <;> cases hc
  case fieldAddr t x i =>
    obtain ⟨_, _, _, _, _, _, hc⟩ := hc
    split at hc
    · cases hc
    · simp only [Option.bind_eq_some_iff, Option.some.injEq, reduceCtorEq, and_false, exists_false] at hc
  case convert t t' x =>
    split at hc
    · simp only [Option.bind_eq_some_iff, Option.some.injEq, reduceCtorEq, and_false, exists_false] at hc
    · simp only [Option.bind_eq_some_iff, Option.some.injEq, reduceCtorEq, and_false, exists_false] at hc
    · split at hc
      · simp only [Option.bind_eq_some_iff, Option.some.injEq, reduceCtorEq, and_false, exists_false] at hc
      · cases hc
    · split at hc
      · split at hc
        · simp only [Option.bind_eq_some_iff, Option.some.injEq, reduceCtorEq, and_false, exists_false] at hc
        · cases hc
      · cases hc
    · cases hc
  case call c =>
    obtain ⟨callee, args, ats⟩ := c
    cases callee with
    | value f => simp only [Option.bind_eq_some_iff, Option.some.injEq, reduceCtorEq, and_false, exists_false] at hc
    | invoke r m => cases hc
    | builtin b =>
      simp only [Option.bind_eq_some_iff] at hc
      obtain ⟨as, has, hc⟩ := hc
      have mem : ∀ x ∈ args.toList, ∀ ox, cOpd x = some ox → VR ρ G w (ox.ev e) (a.eval x) := fun x hx => hr' x (by simp [Call.operands]; simpa using hx)
      split at hc
      · rename_i ox oy t tx hts
        simp only [Option.bind_eq_some_iff] at hc
        obtain ⟨el, hel, _, hfit, ⟨ag, z⟩, hsh, zc, hz, hc⟩ := hc
        obtain ⟨x, y, hl, h1, h2⟩ := cOpds_two has
        have e1 := two_of hl
        have e2 := two_of hts
        subst e1; subst e2
        split at hc
        · rename_i e' hk
          injection hc with hc; injection hc with hc; subst hc
          exact e_app hs (mem x (by simp) _ h1) (mem y (by simp) _ h2) (elemOfS_ok hel) hfit hsh hz (.inl ⟨e', hk⟩) h
        · rename_i hk
          injection hc with hc; injection hc with hc; subst hc
          exact e_app hs (mem x (by simp) _ h1) (mem y (by simp) _ h2) (elemOfS_ok hel) hfit hsh hz (.inr hk) h
        · cases hc
      · split at hc
        · cases hc
        · split at hc <;> cases hc
        · cases hc
        · cases hc
        · cases hc
        · cases hc
      · cases hc
      · cases hc
      · rename_i om ok t ts hts
        have hat : ats[0]? = some t := by
          have := congrArg (fun l => l[0]?) hts
          simpa using this
        obtain ⟨x, y, hl, h1, h2⟩ := cOpds_two has
        have e1 := two_of hl
        subst e1
        split at hc
        · rename_i kty el hu
          simp only [Option.bind_eq_some_iff, Option.some.injEq, K.e.injEq] at hc
          obtain ⟨kt, hkt, rfl⟩ := hc
          exact e_del hs (mem x (by simp) _ h1) (mem y (by simp) _ h2) hat hu hkt h
        · cases hc
      · rename_i ox t ts hts
        have hat : ats[0]? = some t := by
          have := congrArg (fun l => l[0]?) hts
          simpa using this
        simp only [Option.bind_eq_some_iff, Option.some.injEq, K.e.injEq] at hc
        obtain ⟨el, hel, sh, hsh, zc, hz, rfl⟩ := hc
        obtain ⟨x, hl, h1⟩ := cOpds_one has
        have e1 : args = #[x] := Array.ext' (by simpa using hl)
        subst e1
        exact e_clr hs (mem x (by simp) _ h1) hat (elemOfS_ok hel) hz h
      · cases hc
      · rename_i ox on pt it hts
        split at hc
        · rename_i el hu
          split at hc
          · rename_i hcond
            obtain ⟨rfl, hcell⟩ := hcond
            injection hc with hc; injection hc with hc; subst hc
            obtain ⟨x, y, hl, h1, h2⟩ := cOpds_two has
            have e1 := two_of hl
            have e2 := two_of hts
            subst e1; subst e2
            exact e_ustr hs (mem x (by simp) _ h1) (mem y (by simp) _ h2) hu hcell h
          · cases hc
        · cases hc
      · cases hc
  all_goals first
    | (cases hc; done)
    | (exfalso; revert hc; first | (split <;> simp [Option.bind_eq_some_iff]; done) | (split <;> (try split) <;> simp [Option.bind_eq_some_iff]; done) | (simp [Option.bind_eq_some_iff]; done))
    | skip
end
end Den
