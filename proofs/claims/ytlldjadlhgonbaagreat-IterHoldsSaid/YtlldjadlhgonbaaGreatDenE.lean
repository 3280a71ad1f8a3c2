/- The closures are the abstract machine. -/
import Derived.Test.YtlldjadlhgonbaaGreatDenK
import Derived.Test.YtlldjadlhgonbaaGreatDenC
set_option linter.unusedVariables false
set_option linter.unusedSimpArgs false
set_option autoImplicit false
set_option linter.unusedVariables false
namespace Den
open Go
namespace KK
/-! ### slots, operands -/
noncomputable def gS : Slot → Og
  | ⟨.d0, j, k⟩ => gA j k
  | ⟨i, j, k⟩ => gB i j k
noncomputable def pS : Slot → Pt
  | ⟨.d0, j, k⟩ => pA j k
  | ⟨i, j, k⟩ => pB i j k
noncomputable def gO : Opd → Og
  | .t s => gS s
  | .k v => kV v
  | .f id => kF id
theorem at1_ok (k : D8) (x : E1) : at1 k x = x.at k := by cases k <;> rfl
theorem at2_ok (k : D8) (x : E2) : at2 k x = x.at k := by cases k <;> rfl
theorem at3_ok (k : D8) (x : Env) : at3 k x = x.at k := by cases k <;> rfl
theorem gA_ok (j k : D8) (e : Env) : gA j k e = e.get ⟨.d0, j, k⟩ := by
  show at1 k (at2 j e.a) = _
  rw [at1_ok, at2_ok]; rfl
theorem gB_ok (i j k : D8) (e : Env) : gB i j k e = e.get ⟨i, j, k⟩ := by
  show at1 k (at2 j (at3 i e)) = _
  rw [at1_ok, at2_ok, at3_ok]; rfl
theorem gS_ok (d : Slot) (e : Env) : gS d e = e.get d := by
  obtain ⟨i, j, k⟩ := d
  cases i
  · exact gA_ok j k e
  · exact gB_ok .d1 j k e
  · exact gB_ok .d2 j k e
  · exact gB_ok .d3 j k e
  · exact gB_ok .d4 j k e
  · exact gB_ok .d5 j k e
  · exact gB_ok .d6 j k e
  · exact gB_ok .d7 j k e
theorem gO_ok (o : Opd) (e : Env) : gO o e = o.ev e := by
  cases o with
  | t s => exact gS_ok s e
  | k v => rfl
  | f id => rfl
theorem to1_ok (k : D8) (x : E1) (v : AV) (K : E1 → R) : to1 k x v K = K (x.to v k) := by cases k <;> cases x <;> rfl
theorem to2_ok (j k : D8) (x : E2) (v : AV) (K : E2 → R) : to2 j k x v K = K (x.to ((x.at j).to v k) j) := by
  cases x
  cases j <;> exact to1_ok k _ v _
theorem pA_ok (j k : D8) (e : Env) (v : AV) (K : Env → R) : pA j k e v K = K (e.put ⟨.d0, j, k⟩ v) := by
  cases e
  exact to2_ok j k _ v _
theorem pB_ok (i j k : D8) (e : Env) (v : AV) (K : Env → R) : pB i j k e v K = K (e.put ⟨i, j, k⟩ v) := by
  obtain ⟨a, b, c, d, e, f, g, h⟩ := e
  cases i <;> first | rfl | exact to2_ok j k _ v _
theorem pS_ok (d : Slot) (e : Env) (v : AV) (K : Env → R) : pS d e v K = K (e.put d v) := by
  obtain ⟨i, j, k⟩ := d
  cases i
  · exact pA_ok j k e v K
  · exact pB_ok .d1 j k e v K
  · exact pB_ok .d2 j k e v K
  · exact pB_ok .d3 j k e v K
  · exact pB_ok .d4 j k e v K
  · exact pB_ok .d5 j k e v K
  · exact pB_ok .d6 j k e v K
  · exact pB_ok .d7 j k e v K
/-! ### small tools -/
theorem forceN_ok (n : Nat) (K : Nat → R) : forceN n K = K n := by cases n <;> rfl
theorem lenF_ok {α : Type} : ∀ l : List α, lenF l = len l
  | [] => rfl
  | _ :: l => by show Nat.succ (lenF l) = len l + 1; rw [lenF_ok l]
theorem notB_ok (b : Bool) : notB b = !b := by cases b <;> rfl
def optK {α : Type} (o : Option α) (K : α → R) : R := match o with | some v => K v | none => .no
theorem nthK_ok {α : Type} : ∀ (l : List α) (n : Nat) (K : α → R), nthK l n K = optK (nth l n) K
  | [], n, K => rfl
  | a :: l, 0, K => rfl
  | a :: l, n + 1, K => nthK_ok l n K
theorem appK_ok {α : Type} : ∀ (l m : List α) (K : List α → R), appK l m K = K (l ++ m)
  | [], m, K => rfl
  | a :: l, m, K => appK_ok l m fun r => K (a :: r)
theorem takeK_ok {α : Type} : ∀ (l : List α) (n : Nat) (K : List α → R), takeK l n K = K (tk n l)
  | [], 0, K => rfl
  | [], n + 1, K => rfl
  | a :: l, 0, K => rfl
  | a :: l, n + 1, K => takeK_ok l n fun r => K (a :: r)
theorem dropK_ok {α : Type} : ∀ (l : List α) (n : Nat) (K : List α → R), dropK l n K = K (dr n l)
  | [], 0, K => rfl
  | [], n + 1, K => rfl
  | a :: l, 0, K => rfl
  | a :: l, n + 1, K => dropK_ok l n K
theorem cellsK_ok (v : AV) : cellsK v = cellsOf v := by
  cases v with
  | lst h xs => cases h <;> rfl
  | _ => rfl
theorem cellsQK_ok (v : AV) (K : List AV → R) : cellsQK v K = optK (cellsQ v) K := by
  cases v with
  | lst h xs => cases h <;> rfl
  | _ => rfl
theorem kEq_ok (k k' : IntKind) : kEq k k' = (k == k') := by cases k <;> cases k' <;> rfl
theorem runV_some (v : AV) (s : St) (K : KV) : runV (some v) s K = K v s := rfl
theorem natK_ok (k : IntKind) (n : Nat) (s : St) (K : KV) : natK k n s K = K (.int k (.c (wrapC k (.ofNat n)))) s := by
  unfold natK
  rw [forceN_ok]
  cases k <;> try rfl
  show Bool.rec (motive := fun _ => R) _ _ (Nat.ble n 9223372036854775807) = _
  cases h : Nat.ble n 9223372036854775807
  · rfl
  · simp only [wrapC, h]
theorem bool_eta {α : Type} {b : Bool} {x y : α} (h1 : b = false → x = y) (h2 : b = true → x = y) : x = y := by cases b <;> first | exact h1 rfl | exact h2 rfl
/-! ### the heap -/
theorem trGet_ok {α : Type} : ∀ (t : Tr α) (i : Nat), trGet t i = t.get i
  | .leaf, i => by cases i <;> rfl
  | .node l v r, 0 => rfl
  | .node l v r, j + 1 => by
    show Nat.rec (motive := fun _ => Option α) (trGet l (j / 2)) (fun _ _ => trGet r (j / 2)) (j % 2) = _
    simp only [Tr.get]
    rw [← trGet_ok l, ← trGet_ok r]
    cases j % 2 <;> rfl
theorem trGetK_ok {α : Type} : ∀ (t : Tr α) (i : Nat) (K : α → R), trGetK t i K = optK (t.get i) K
  | .leaf, i, K => by cases i <;> rfl
  | .node l v r, 0, K => by cases v <;> rfl
  | .node l v r, j + 1, K => by
    show Nat.rec (motive := fun _ => R) (trGetK l (j / 2) K) (fun _ _ => trGetK r (j / 2) K) (j % 2) = _
    simp only [Tr.get]
    rw [trGetK_ok l, trGetK_ok r]
    cases j % 2 <;> rfl
theorem trSet_ok {α : Type} : ∀ (f : Nat) (t : Tr α) (i : Nat) (x : Option α) (K : Tr α → R), trSet f t i x K = K (Tr.set f t i x)
  | 0, t, i, x, K => rfl
  | f + 1, .leaf, 0, x, K => rfl
  | f + 1, .node l v r, 0, x, K => rfl
  | f + 1, .leaf, j + 1, x, K => by
    show Nat.rec (motive := fun _ => R) (trSet f .leaf (j / 2) x fun l => K (.node l none .leaf)) (fun _ _ => trSet f .leaf (j / 2) x fun r => K (.node .leaf none r)) (j % 2) = _
    rw [trSet_ok f, trSet_ok f]
    simp only [Tr.set]
    cases j % 2 <;> rfl
  | f + 1, .node l v r, j + 1, x, K => by
    show Nat.rec (motive := fun _ => R) (trSet f l (j / 2) x fun l => K (.node l v r)) (fun _ _ => trSet f r (j / 2) x fun r => K (.node l v r)) (j % 2) = _
    rw [trSet_ok f, trSet_ok f]
    simp only [Tr.set]
    cases j % 2 <;> rfl
theorem cellsAtK_ok (s : St) (b : Nat) (K : List AV → R) : cellsAtK s b K = optK (cellsAt s b) K := by
  unfold cellsAtK cellsAt
  rw [trGetK_ok]
  cases s.blk.get b with
  | none => rfl
  | some o => cases o <;> rfl
theorem setBlkK_ok (s : St) (b : Nat) (o : AObj) (K : St → R) : setBlkK s b o K = K (setBlk s b o) := by
  cases s
  unfold setBlkK
  dsimp only
  rw [trSet_ok]; rfl
theorem newBlkK_ok (s : St) (o : AObj) (K : Nat → St → R) : newBlkK s o K = K s.nb (newBlk s o) := by
  obtain ⟨nb, blk, nt, top⟩ := s
  unfold newBlkK
  dsimp only
  rw [trSet_ok, forceN_ok]; rfl
theorem putTopK_ok (s : St) (t n : Nat) (K : St → R) : putTopK s t n K = K { s with top := s.top.put t n } := by
  obtain ⟨nb, blk, nt, top⟩ := s
  unfold putTopK
  dsimp only
  rw [forceN_ok, trSet_ok]; rfl
theorem newTokK_ok (s : St) (u n : Nat) (K : Nat → St → R) : newTokK s u n K = K (s.nt + u) (newTok s u n) := by
  obtain ⟨nb, blk, nt, top⟩ := s
  unfold newTokK
  dsimp only
  rw [forceN_ok, forceN_ok, trSet_ok, forceN_ok]; rfl
theorem rdK_ok (ag : Bool) (n : Nat) (cs : List AV) (off : Nat) (s : St) (K : KV) : rdK ag n cs off s K = runV (rd ag n cs off) s K := by
  cases ag
  · show nthK cs off _ = _
    rw [nthK_ok]
    simp only [rd]
    cases nth cs off <;> rfl
  · show dropK cs off _ = _
    rw [dropK_ok, takeK_ok, lenF_ok]
    simp only [rd]
    cases Nat.beq (len (tk n (dr off cs))) n <;> rfl
theorem ovrK_ok : ∀ (cs vs : List AV) (K : List AV → R), ovrK cs vs K = optK (ovr cs vs) K
  | [], [], K => rfl
  | [], _ :: _, K => rfl
  | c :: cs, [], K => rfl
  | c :: cs, v :: vs, K => by
    show ovrK cs vs _ = _
    rw [ovrK_ok cs vs]
    simp only [ovr]
    cases ovr cs vs <;> rfl
theorem setAtK_ok : ∀ (cs : List AV) (n : Nat) (vs : List AV) (K : List AV → R), setAtK cs n vs K = optK (setAt cs n vs) K
  | [], 0, vs, K => by
    show ovrK [] vs K = _
    rw [ovrK_ok]
    cases vs <;> rfl
  | [], n + 1, vs, K => rfl
  | c :: cs, 0, vs, K => by
    show ovrK (c :: cs) vs K = _
    rw [ovrK_ok]
    cases vs <;> rfl
  | c :: cs, n + 1, vs, K => by
    show setAtK cs n vs _ = _
    rw [setAtK_ok cs n vs]
    simp only [setAt]
    cases setAt cs n vs <;> rfl
end KK
end Den

set_option autoImplicit false
set_option linter.unusedVariables false
namespace Den
open Go
namespace KK
theorem iopE_add (k : IntKind) (a b : Int) : iop .add k a b = some (.int k (.c (wrapC k (a + b)))) := rfl
theorem sub_nat {a b : Nat} (h : Nat.ble b a = true) : Int.ofNat (Nat.sub a b) = Int.ofNat a - Int.ofNat b := by
  have := Nat.le_of_ble_eq_true h
  show ((a - b : Nat) : Int) = (a : Int) - (b : Int)
  omega
theorem addI_ok (k : IntKind) (a b : Int) (s : St) (K : KV) : addI k a b s K = runV (iop .add k a b) s K := by
  cases a with
  | ofNat a =>
    cases b with
    | ofNat b =>
      exact natK_ok k (a + b) s K
    | negSucc b => rfl
  | negSucc a => cases b <;> rfl
theorem subI_ok (k : IntKind) (a b : Int) (s : St) (K : KV) : subI k a b s K = runV (iop .sub k a b) s K := by
  cases a with
  | ofNat a =>
    cases b with
    | ofNat b =>
      show Bool.rec (motive := fun _ => R) _ (natK k (Nat.sub a b) s K) (Nat.ble b a) = _
      rw [natK_ok]
      cases h : Nat.ble b a
      · rfl
      · show K (.int k (.c (wrapC k (Int.ofNat (Nat.sub a b))))) s = K (.int k (.c (wrapC k (Int.ofNat a - Int.ofNat b)))) s
        rw [sub_nat h]
    | negSucc b => rfl
  | negSucc a => cases b <;> rfl
theorem mulI_ok (k : IntKind) (a b : Int) (s : St) (K : KV) : mulI k a b s K = runV (iop .mul k a b) s K := by
  cases a with
  | ofNat a =>
    cases b with
    | ofNat b =>
      exact natK_ok k (a * b) s K
    | negSucc b => rfl
  | negSucc a => cases b <;> rfl
theorem quoI_ok (k : IntKind) (a b : Int) (s : St) (K : KV) : quoI k a b s K = runV (iop .quo k a b) s K := by
  cases a with
  | ofNat a =>
    cases b with
    | ofNat b =>
      cases b with
      | zero => rfl
      | succ b =>
        show natK k (a / (b + 1)) s K = _
        rw [natK_ok]
        have h : ¬ (Int.ofNat (b + 1) = 0) := by simp; omega
        simp only [iop, if_neg h]; rfl
    | negSucc b => rfl
  | negSucc a => cases b <;> rfl
theorem remI_ok (k : IntKind) (a b : Int) (s : St) (K : KV) : remI k a b s K = runV (iop .rem k a b) s K := by
  cases a with
  | ofNat a =>
    cases b with
    | ofNat b =>
      cases b with
      | zero => rfl
      | succ b =>
        have h : ¬ (Int.ofNat (b + 1) = 0) := by simp; omega
        simp only [iop, if_neg h]; rfl
    | negSucc b => rfl
  | negSucc a => cases b <;> rfl
theorem andI_ok (k : IntKind) (a b : Int) (s : St) (K : KV) : andI k a b s K = runV (iop .and k a b) s K := by
  cases a with
  | ofNat a =>
    cases b with
    | ofNat b =>
      exact natK_ok k (Nat.land a b) s K
    | negSucc b => rfl
  | negSucc a => cases b <;> rfl
theorem orI_ok (k : IntKind) (a b : Int) (s : St) (K : KV) : orI k a b s K = runV (iop .or k a b) s K := by
  cases a with
  | ofNat a =>
    cases b with
    | ofNat b =>
      exact natK_ok k (Nat.lor a b) s K
    | negSucc b => rfl
  | negSucc a => cases b <;> rfl
theorem min_bits {b : Nat} (k : IntKind) (h : Nat.ble b 8 = true) : min b k.bits = b := by
  have := Nat.le_of_ble_eq_true h
  have h2 : 8 ≤ k.bits := by cases k <;> decide
  omega
theorem shlI_ok (k : IntKind) (a b : Int) (s : St) (K : KV) : shlI k a b s K = runV (iop .shl k a b) s K := by
  cases a with
  | ofNat a =>
    cases b with
    | ofNat b =>
      show Bool.rec (motive := fun _ => R) _ (natK k (a * 2 ^ b) s K) (Nat.ble b 8) = _
      rw [natK_ok]
      cases h : Nat.ble b 8
      · rfl
      · show K (.int k (.c (wrapC k (.ofNat (a * 2 ^ b))))) s = K (.int k (.c (wrapC k (.ofNat a * .ofNat (2 ^ min b k.bits))))) s
        rw [min_bits k h]; rfl
    | negSucc b => rfl
  | negSucc a => cases b <;> rfl
theorem shrI_ok (k : IntKind) (a b : Int) (s : St) (K : KV) : shrI k a b s K = runV (iop .shr k a b) s K := by
  cases a with
  | ofNat a =>
    cases b with
    | ofNat b =>
      show Bool.rec (motive := fun _ => R) _ (forceN (a / 2 ^ b) _) (Nat.ble b 8) = _
      rw [forceN_ok]
      cases h : Nat.ble b 8
      · rfl
      · show K (.int k (.c (.ofNat (a / 2 ^ b)))) s = K (.int k (.c (.ofNat (a / 2 ^ min b k.bits)))) s
        rw [min_bits k h]
    | negSucc b => rfl
  | negSucc a => cases b <;> rfl
theorem eqlI_ok (k : IntKind) (a b : Int) (s : St) (K : KV) : eqlI k a b s K = runV (iop .eql k a b) s K := by
  cases a with
  | ofNat a =>
    cases b with
    | ofNat b =>
      rfl
    | negSucc b => rfl
  | negSucc a => cases b <;> rfl
theorem neqI_ok (k : IntKind) (a b : Int) (s : St) (K : KV) : neqI k a b s K = runV (iop .neq k a b) s K := by
  cases a with
  | ofNat a =>
    cases b with
    | ofNat b =>
      exact congrArg (fun b => K (.bool b) s) (notB_ok _)
    | negSucc b => (refine congrArg (fun b => K (.bool b) s) ?_; exact notB_ok _)
  | negSucc a => cases b <;> (refine congrArg (fun b => K (.bool b) s) ?_; exact notB_ok _)
theorem lssI_ok (k : IntKind) (a b : Int) (s : St) (K : KV) : lssI k a b s K = runV (iop .lss k a b) s K := by
  cases a with
  | ofNat a =>
    cases b with
    | ofNat b =>
      rfl
    | negSucc b => rfl
  | negSucc a => cases b <;> rfl
theorem ble_not (a b : Nat) : Nat.ble a b = !Nat.ble (b + 1) a := by
  by_cases h : a ≤ b
  · rw [Nat.ble_eq_true_of_le h]
    have : Nat.ble (b + 1) a = false := by
      cases hq : Nat.ble (b + 1) a
      · rfl
      · have := Nat.le_of_ble_eq_true hq; omega
    rw [this]; rfl
  · rw [Nat.ble_eq_true_of_le (show b + 1 ≤ a by omega)]
    cases hq : Nat.ble a b
    · rfl
    · exact absurd (Nat.le_of_ble_eq_true hq) h
theorem leqI_ok (k : IntKind) (a b : Int) (s : St) (K : KV) : leqI k a b s K = runV (iop .leq k a b) s K := by
  cases a with
  | ofNat a =>
    cases b with
    | ofNat b =>
      exact congrArg (fun b => K (.bool b) s) (ble_not a b)
    | negSucc b => (refine congrArg (fun b => K (.bool b) s) ?_; exact notB_ok _)
  | negSucc a => cases b <;> (refine congrArg (fun b => K (.bool b) s) ?_; exact notB_ok _)
theorem gtrI_ok (k : IntKind) (a b : Int) (s : St) (K : KV) : gtrI k a b s K = runV (iop .gtr k a b) s K := by
  cases a with
  | ofNat a =>
    cases b with
    | ofNat b =>
      rfl
    | negSucc b => rfl
  | negSucc a => cases b <;> rfl
theorem geqI_ok (k : IntKind) (a b : Int) (s : St) (K : KV) : geqI k a b s K = runV (iop .geq k a b) s K := by
  cases a with
  | ofNat a =>
    cases b with
    | ofNat b =>
      exact congrArg (fun b => K (.bool b) s) (ble_not b a)
    | negSucc b => (refine congrArg (fun b => K (.bool b) s) ?_; exact notB_ok _)
  | negSucc a => cases b <;> (refine congrArg (fun b => K (.bool b) s) ?_; exact notB_ok _)
/-! ### strings -/
theorem byteEq_no {a b : Nat} (h : Nat.beq a b = false) (ha : Nat.ble a 255 = true) (hb : Nat.ble b 255 = true) : byteEq a b = some false := by
  simp only [byteEq, h, ha, hb, Bool.and_self]
theorem byteEq_yes {a b : Nat} (h : Nat.beq a b = true) : byteEq a b = some true := by simp only [byteEq, h]
theorem strEqK_ok : ∀ (x y : List Nat) (K : Bool → R) (D : R), strEqK x y K D = D ∨ ∃ b, strEqQ x y = some b ∧ strEqK x y K D = K b
  | [], [], K, D => .inr ⟨true, rfl, rfl⟩
  | [], _ :: _, K, D => .inr ⟨false, rfl, rfl⟩
  | _ :: _, [], K, D => .inr ⟨false, rfl, rfl⟩
  | a :: x, b :: y, K, D => by
    have e : strEqK (a :: x) (b :: y) K D = Bool.rec (motive := fun _ => R) (Bool.rec (motive := fun _ => R) D (Bool.rec (motive := fun _ => R) D (K false) (Nat.ble b 255)) (Nat.ble a 255)) (strEqK x y K D) (Nat.beq a b) := rfl
    rw [e]
    cases h : Nat.beq a b
    · cases ha : Nat.ble a 255
      · exact .inl rfl
      · cases hb : Nat.ble b 255
        · exact .inl rfl
        · refine .inr ⟨false, ?_, rfl⟩
          simp only [strEqQ, byteEq_no h ha hb]
    · rcases strEqK_ok x y K D with h' | ⟨c, h1, h2⟩
      · exact .inl h'
      · refine .inr ⟨c, ?_, h2⟩
        simp only [strEqQ, byteEq_yes h, h1]
theorem strLtK_ok : ∀ (x y : List Nat) (K : Bool → R) (D : R), strLtK x y K D = D ∨ ∃ b, strLtQ x y = some b ∧ strLtK x y K D = K b
  | [], [], K, D => .inr ⟨false, rfl, rfl⟩
  | [], _ :: _, K, D => .inr ⟨true, rfl, rfl⟩
  | _ :: _, [], K, D => .inr ⟨false, rfl, rfl⟩
  | a :: x, b :: y, K, D => by
    have e : strLtK (a :: x) (b :: y) K D = Bool.rec (motive := fun _ => R) (Bool.rec (motive := fun _ => R) D (Bool.rec (motive := fun _ => R) D (K (Nat.ble (Nat.succ a) b)) (Nat.ble b 255)) (Nat.ble a 255)) (strLtK x y K D) (Nat.beq a b) := rfl
    rw [e]
    cases h : Nat.beq a b
    · cases ha : Nat.ble a 255
      · exact .inl rfl
      · cases hb : Nat.ble b 255
        · exact .inl rfl
        · refine .inr ⟨_, ?_, rfl⟩
          simp only [strLtQ, byteEq_no h ha hb, byteLt, ha, hb, Bool.and_self]
    · rcases strLtK_ok x y K D with h' | ⟨c, h1, h2⟩
      · exact .inl h'
      · refine .inr ⟨c, ?_, h2⟩
        simp only [strLtQ, byteEq_yes h, h1]
theorem addS_ok (l l' : List Nat) (s : St) (K : KV) : addS l l' s K = runV (sop .add l l') s K := by
  unfold addS
  rw [appK_ok, lenF_ok, lenF_ok]
  simp only [sop]
  show Bool.rec (motive := fun _ => R) _ _ (Nat.ble (len l + len l') 9223372036854775807) = _
  cases Nat.ble (len l + len l') 9223372036854775807 <;> rfl
theorem eqlS_ok (l l' : List Nat) (s : St) (K : KV) : eqlS l l' s K = runV (sop .eql l l') s K := by
  unfold eqlS
  rcases strEqK_ok l l' (fun b => K (.bool b) s) (runV (sop .eql l l') s K) with h | ⟨b, h1, h2⟩
  · exact h
  · rw [h2]
    simp only [sop, h1, boolO, runV_some]
theorem neqS_ok (l l' : List Nat) (s : St) (K : KV) : neqS l l' s K = runV (sop .neq l l') s K := by
  unfold neqS
  rcases strEqK_ok l l' (fun b => K (.bool (notB b)) s) (runV (sop .neq l l') s K) with h | ⟨b, h1, h2⟩
  · exact h
  · rw [h2]
    simp only [sop, h1, boolO, runV_some, notB_ok]
    try (cases b <;> rfl)
theorem lssS_ok (l l' : List Nat) (s : St) (K : KV) : lssS l l' s K = runV (sop .lss l l') s K := by
  unfold lssS
  rcases strLtK_ok l l' (fun b => K (.bool b) s) (runV (sop .lss l l') s K) with h | ⟨b, h1, h2⟩
  · exact h
  · rw [h2]
    simp only [sop, h1, boolO, runV_some]
theorem leqS_ok (l l' : List Nat) (s : St) (K : KV) : leqS l l' s K = runV (sop .leq l l') s K := by
  unfold leqS
  rcases strLtK_ok l' l (fun b => K (.bool (notB b)) s) (runV (sop .leq l l') s K) with h | ⟨b, h1, h2⟩
  · exact h
  · rw [h2]
    simp only [sop, h1, boolO, runV_some, notB_ok]
    try (cases b <;> rfl)
theorem gtrS_ok (l l' : List Nat) (s : St) (K : KV) : gtrS l l' s K = runV (sop .gtr l l') s K := by
  unfold gtrS
  rcases strLtK_ok l' l (fun b => K (.bool b) s) (runV (sop .gtr l l') s K) with h | ⟨b, h1, h2⟩
  · exact h
  · rw [h2]
    simp only [sop, h1, boolO, runV_some]
theorem geqS_ok (l l' : List Nat) (s : St) (K : KV) : geqS l l' s K = runV (sop .geq l l') s K := by
  unfold geqS
  rcases strLtK_ok l l' (fun b => K (.bool (notB b)) s) (runV (sop .geq l l') s K) with h | ⟨b, h1, h2⟩
  · exact h
  · rw [h2]
    simp only [sop, h1, boolO, runV_some, notB_ok]
    try (cases b <;> rfl)
/-! ### binary operations -/
theorem o_add_ok (x y : Og) (e : Env) (s : St) (K : KV) : o_add x y e s K = slowB .add (x e) (y e) s K := by
  unfold o_add
  generalize x e = u
  generalize y e = v
  cases u with
  | int k n =>
    cases v with
    | int k' m =>
      cases n with
      | c a =>
        cases m with
        | c b =>
          show Bool.rec (motive := fun _ => R) _ (addI k a b s K) (kEq k k') = _
          rw [addI_ok, kEq_ok]
          cases h : k == k'
          · rfl
          · have := eq_of_beq h
            subst this
            show runV (iop .add k a b) s K = runV (bop .add (.int k (.c a)) (.int k (.c b))) s K
            simp only [bop, iopS, beq_self_eq_true]
        | l q ts => rfl
      | l q ts => rfl
    | _ => rfl
  | str l =>
    cases v with
    | str l' => exact addS_ok l l' s K
    | _ => rfl
  | _ => rfl
theorem o_sub_ok (x y : Og) (e : Env) (s : St) (K : KV) : o_sub x y e s K = slowB .sub (x e) (y e) s K := by
  unfold o_sub
  generalize x e = u
  generalize y e = v
  cases u with
  | int k n =>
    cases v with
    | int k' m =>
      cases n with
      | c a =>
        cases m with
        | c b =>
          show Bool.rec (motive := fun _ => R) _ (subI k a b s K) (kEq k k') = _
          rw [subI_ok, kEq_ok]
          cases h : k == k'
          · rfl
          · have := eq_of_beq h
            subst this
            show runV (iop .sub k a b) s K = runV (bop .sub (.int k (.c a)) (.int k (.c b))) s K
            simp only [bop, iopS, beq_self_eq_true]
        | l q ts => rfl
      | l q ts => rfl
    | _ => rfl
  | _ => rfl
theorem o_mul_ok (x y : Og) (e : Env) (s : St) (K : KV) : o_mul x y e s K = slowB .mul (x e) (y e) s K := by
  unfold o_mul
  generalize x e = u
  generalize y e = v
  cases u with
  | int k n =>
    cases v with
    | int k' m =>
      cases n with
      | c a =>
        cases m with
        | c b =>
          show Bool.rec (motive := fun _ => R) _ (mulI k a b s K) (kEq k k') = _
          rw [mulI_ok, kEq_ok]
          cases h : k == k'
          · rfl
          · have := eq_of_beq h
            subst this
            show runV (iop .mul k a b) s K = runV (bop .mul (.int k (.c a)) (.int k (.c b))) s K
            simp only [bop, iopS, beq_self_eq_true]
        | l q ts => rfl
      | l q ts => rfl
    | _ => rfl
  | _ => rfl
theorem o_quo_ok (x y : Og) (e : Env) (s : St) (K : KV) : o_quo x y e s K = slowB .quo (x e) (y e) s K := by
  unfold o_quo
  generalize x e = u
  generalize y e = v
  cases u with
  | int k n =>
    cases v with
    | int k' m =>
      cases n with
      | c a =>
        cases m with
        | c b =>
          show Bool.rec (motive := fun _ => R) _ (quoI k a b s K) (kEq k k') = _
          rw [quoI_ok, kEq_ok]
          cases h : k == k'
          · rfl
          · have := eq_of_beq h
            subst this
            show runV (iop .quo k a b) s K = runV (bop .quo (.int k (.c a)) (.int k (.c b))) s K
            simp only [bop, iopS, beq_self_eq_true]
        | l q ts => rfl
      | l q ts => rfl
    | _ => rfl
  | _ => rfl
theorem o_rem_ok (x y : Og) (e : Env) (s : St) (K : KV) : o_rem x y e s K = slowB .rem (x e) (y e) s K := by
  unfold o_rem
  generalize x e = u
  generalize y e = v
  cases u with
  | int k n =>
    cases v with
    | int k' m =>
      cases n with
      | c a =>
        cases m with
        | c b =>
          show Bool.rec (motive := fun _ => R) _ (remI k a b s K) (kEq k k') = _
          rw [remI_ok, kEq_ok]
          cases h : k == k'
          · rfl
          · have := eq_of_beq h
            subst this
            show runV (iop .rem k a b) s K = runV (bop .rem (.int k (.c a)) (.int k (.c b))) s K
            simp only [bop, iopS, beq_self_eq_true]
        | l q ts => rfl
      | l q ts => rfl
    | _ => rfl
  | _ => rfl
theorem o_and_ok (x y : Og) (e : Env) (s : St) (K : KV) : o_and x y e s K = slowB .and (x e) (y e) s K := by
  unfold o_and
  generalize x e = u
  generalize y e = v
  cases u with
  | int k n =>
    cases v with
    | int k' m =>
      cases n with
      | c a =>
        cases m with
        | c b =>
          show Bool.rec (motive := fun _ => R) _ (andI k a b s K) (kEq k k') = _
          rw [andI_ok, kEq_ok]
          cases h : k == k'
          · rfl
          · have := eq_of_beq h
            subst this
            show runV (iop .and k a b) s K = runV (bop .and (.int k (.c a)) (.int k (.c b))) s K
            simp only [bop, iopS, beq_self_eq_true]
        | l q ts => rfl
      | l q ts => rfl
    | _ => rfl
  | _ => rfl
theorem o_or_ok (x y : Og) (e : Env) (s : St) (K : KV) : o_or x y e s K = slowB .or (x e) (y e) s K := by
  unfold o_or
  generalize x e = u
  generalize y e = v
  cases u with
  | int k n =>
    cases v with
    | int k' m =>
      cases n with
      | c a =>
        cases m with
        | c b =>
          show Bool.rec (motive := fun _ => R) _ (orI k a b s K) (kEq k k') = _
          rw [orI_ok, kEq_ok]
          cases h : k == k'
          · rfl
          · have := eq_of_beq h
            subst this
            show runV (iop .or k a b) s K = runV (bop .or (.int k (.c a)) (.int k (.c b))) s K
            simp only [bop, iopS, beq_self_eq_true]
        | l q ts => rfl
      | l q ts => rfl
    | _ => rfl
  | _ => rfl
theorem o_shl_ok (x y : Og) (e : Env) (s : St) (K : KV) : o_shl x y e s K = slowB .shl (x e) (y e) s K := by
  unfold o_shl
  generalize x e = u
  generalize y e = v
  cases u with
  | int k n =>
    cases v with
    | int k' m =>
      cases n with
      | c a =>
        cases m with
        | c b =>
          show shlI k a b s K = _
          rw [shlI_ok]
          unfold slowB
          refine congrArg (fun o => runV o s K) ?_
          simp only [bop, iopS]
          cases (k == k') <;> rfl
        | l q ts => rfl
      | l q ts => rfl
    | _ => rfl
  | _ => rfl
theorem o_shr_ok (x y : Og) (e : Env) (s : St) (K : KV) : o_shr x y e s K = slowB .shr (x e) (y e) s K := by
  unfold o_shr
  generalize x e = u
  generalize y e = v
  cases u with
  | int k n =>
    cases v with
    | int k' m =>
      cases n with
      | c a =>
        cases m with
        | c b =>
          show shrI k a b s K = _
          rw [shrI_ok]
          unfold slowB
          refine congrArg (fun o => runV o s K) ?_
          simp only [bop, iopS]
          cases (k == k') <;> rfl
        | l q ts => rfl
      | l q ts => rfl
    | _ => rfl
  | _ => rfl
theorem o_eql_ok (x y : Og) (e : Env) (s : St) (K : KV) : o_eql x y e s K = slowB .eql (x e) (y e) s K := by
  unfold o_eql
  generalize x e = u
  generalize y e = v
  cases u with
  | int k n =>
    cases v with
    | int k' m =>
      cases n with
      | c a =>
        cases m with
        | c b =>
          show Bool.rec (motive := fun _ => R) _ (eqlI k a b s K) (kEq k k') = _
          rw [eqlI_ok, kEq_ok]
          cases h : k == k'
          · rfl
          · have := eq_of_beq h
            subst this
            show runV (iop .eql k a b) s K = runV (bop .eql (.int k (.c a)) (.int k (.c b))) s K
            simp only [bop, iopS, beq_self_eq_true]
        | l q ts => rfl
      | l q ts => rfl
    | _ => rfl
  | str l =>
    cases v with
    | str l' => exact eqlS_ok l l' s K
    | _ => rfl
  | _ => rfl
theorem o_neq_ok (x y : Og) (e : Env) (s : St) (K : KV) : o_neq x y e s K = slowB .neq (x e) (y e) s K := by
  unfold o_neq
  generalize x e = u
  generalize y e = v
  cases u with
  | int k n =>
    cases v with
    | int k' m =>
      cases n with
      | c a =>
        cases m with
        | c b =>
          show Bool.rec (motive := fun _ => R) _ (neqI k a b s K) (kEq k k') = _
          rw [neqI_ok, kEq_ok]
          cases h : k == k'
          · rfl
          · have := eq_of_beq h
            subst this
            show runV (iop .neq k a b) s K = runV (bop .neq (.int k (.c a)) (.int k (.c b))) s K
            simp only [bop, iopS, beq_self_eq_true]
        | l q ts => rfl
      | l q ts => rfl
    | _ => rfl
  | str l =>
    cases v with
    | str l' => exact neqS_ok l l' s K
    | _ => rfl
  | _ => rfl
theorem o_lss_ok (x y : Og) (e : Env) (s : St) (K : KV) : o_lss x y e s K = slowB .lss (x e) (y e) s K := by
  unfold o_lss
  generalize x e = u
  generalize y e = v
  cases u with
  | int k n =>
    cases v with
    | int k' m =>
      cases n with
      | c a =>
        cases m with
        | c b =>
          show Bool.rec (motive := fun _ => R) _ (lssI k a b s K) (kEq k k') = _
          rw [lssI_ok, kEq_ok]
          cases h : k == k'
          · rfl
          · have := eq_of_beq h
            subst this
            show runV (iop .lss k a b) s K = runV (bop .lss (.int k (.c a)) (.int k (.c b))) s K
            simp only [bop, iopS, beq_self_eq_true]
        | l q ts => rfl
      | l q ts => rfl
    | _ => rfl
  | str l =>
    cases v with
    | str l' => exact lssS_ok l l' s K
    | _ => rfl
  | _ => rfl
theorem o_leq_ok (x y : Og) (e : Env) (s : St) (K : KV) : o_leq x y e s K = slowB .leq (x e) (y e) s K := by
  unfold o_leq
  generalize x e = u
  generalize y e = v
  cases u with
  | int k n =>
    cases v with
    | int k' m =>
      cases n with
      | c a =>
        cases m with
        | c b =>
          show Bool.rec (motive := fun _ => R) _ (leqI k a b s K) (kEq k k') = _
          rw [leqI_ok, kEq_ok]
          cases h : k == k'
          · rfl
          · have := eq_of_beq h
            subst this
            show runV (iop .leq k a b) s K = runV (bop .leq (.int k (.c a)) (.int k (.c b))) s K
            simp only [bop, iopS, beq_self_eq_true]
        | l q ts => rfl
      | l q ts => rfl
    | _ => rfl
  | str l =>
    cases v with
    | str l' => exact leqS_ok l l' s K
    | _ => rfl
  | _ => rfl
theorem o_gtr_ok (x y : Og) (e : Env) (s : St) (K : KV) : o_gtr x y e s K = slowB .gtr (x e) (y e) s K := by
  unfold o_gtr
  generalize x e = u
  generalize y e = v
  cases u with
  | int k n =>
    cases v with
    | int k' m =>
      cases n with
      | c a =>
        cases m with
        | c b =>
          show Bool.rec (motive := fun _ => R) _ (gtrI k a b s K) (kEq k k') = _
          rw [gtrI_ok, kEq_ok]
          cases h : k == k'
          · rfl
          · have := eq_of_beq h
            subst this
            show runV (iop .gtr k a b) s K = runV (bop .gtr (.int k (.c a)) (.int k (.c b))) s K
            simp only [bop, iopS, beq_self_eq_true]
        | l q ts => rfl
      | l q ts => rfl
    | _ => rfl
  | str l =>
    cases v with
    | str l' => exact gtrS_ok l l' s K
    | _ => rfl
  | _ => rfl
theorem o_geq_ok (x y : Og) (e : Env) (s : St) (K : KV) : o_geq x y e s K = slowB .geq (x e) (y e) s K := by
  unfold o_geq
  generalize x e = u
  generalize y e = v
  cases u with
  | int k n =>
    cases v with
    | int k' m =>
      cases n with
      | c a =>
        cases m with
        | c b =>
          show Bool.rec (motive := fun _ => R) _ (geqI k a b s K) (kEq k k') = _
          rw [geqI_ok, kEq_ok]
          cases h : k == k'
          · rfl
          · have := eq_of_beq h
            subst this
            show runV (iop .geq k a b) s K = runV (bop .geq (.int k (.c a)) (.int k (.c b))) s K
            simp only [bop, iopS, beq_self_eq_true]
        | l q ts => rfl
      | l q ts => rfl
    | _ => rfl
  | str l =>
    cases v with
    | str l' => exact geqS_ok l l' s K
    | _ => rfl
  | _ => rfl
/-! ### the other pure operations -/
theorem oNil_ok (x : Opd) (e : Env) (s : St) (K : KV) : oNil (gO x) e s K = runV (evP e (.nilchk x)) s K := by
  unfold oNil
  simp only [evP]
  rw [gO_ok]
  generalize x.ev e = u
  cases u with
  | ref r => cases r <;> rfl
  | _ => rfl
theorem oPick_ok (c a b : Opd) (e : Env) (s : St) (K : KV) : oPick (gO c) (gO a) (gO b) e s K = runV (evP e (.pick c a b)) s K := by
  unfold oPick
  simp only [evP]
  rw [gO_ok, gO_ok, gO_ok]
  generalize c.ev e = u
  cases u with
  | bool t => cases t <;> rfl
  | _ => rfl
theorem oNot_ok (x : Opd) (e : Env) (s : St) (K : KV) : oNot (gO x) e s K = runV (evP e (.un .not x)) s K := by
  unfold oNot
  simp only [evP]
  rw [gO_ok]
  generalize x.ev e = u
  cases u with
  | bool t => cases t <;> rfl
  | int k n => cases n <;> rfl
  | _ => rfl
theorem oCvti_ok (k : IntKind) (x : Opd) (e : Env) (s : St) (K : KV) : oCvti k (gO x) e s K = runV (evP e (.cvti k x)) s K := by
  unfold oCvti
  simp only [evP]
  rw [gO_ok]
  generalize x.ev e = u
  cases u with
  | int k' n =>
    cases n with
    | c n =>
      cases n with
      | ofNat m => exact natK_ok k m s K
      | negSucc m => rfl
    | l q ts => rfl
  | _ => rfl
theorem oFld_ok (off : Nat) (x : Opd) (e : Env) (s : St) (K : KV) : oFld off (gO x) e s K = runV (evP e (.fld off x)) s K := by
  unfold oFld
  simp only [evP, forceN_ok]
  rw [gO_ok]
  generalize x.ev e = u
  cases u with
  | ref r => cases r <;> rfl
  | lst h xs => cases h <;> rfl
  | _ => rfl
theorem oExt_ok (x : Opd) (i : Nat) (e : Env) (s : St) (K : KV) : oExt (gO x) i e s K = runV (evP e (.ext x i)) s K := by
  unfold oExt
  simp only [evP, nthK_ok]
  rw [gO_ok]
  generalize x.ev e = u
  cases u with
  | lst h xs =>
    cases h with
    | tup => show optK (nth xs i) _ = runV (nth xs i) s K; cases nth xs i <;> rfl
    | _ => rfl
  | _ => rfl
theorem oLenT_ok (x : Opd) (e : Env) (s : St) (K : KV) : oLenT (gO x) e s K = runV (evP e (.lenT x)) s K := by
  unfold oLenT
  simp only [evP, forceN_ok, lenF_ok]
  rw [gO_ok]
  generalize x.ev e = u
  cases u <;> rfl
theorem oLenS_ok (x : Opd) (e : Env) (s : St) (K : KV) : oLenS (gO x) e s K = runV (evP e (.lenS x)) s K := by
  unfold oLenS
  simp only [evP, forceN_ok, lenF_ok]
  rw [gO_ok]
  generalize x.ev e = u
  cases u with
  | ref r => cases r <;> rfl
  | lst h xs => cases h <;> rfl
  | _ => rfl
theorem natVK_ok (v : AV) (K : Nat → R) : natVK v K = optK (natV v) K := by
  unfold natVK natV
  cases v with
  | int k n =>
    cases n with
    | c n => cases n <;> rfl
    | l q ts => rfl
  | _ => rfl
theorem oIdxs_ok (x i : Opd) (e : Env) (s : St) (K : KV) : oIdxs (gO x) (gO i) e s K = runV (evP e (.idxs x i)) s K := by
  unfold oIdxs
  simp only [evP, natVK_ok, nthK_ok]
  rw [gO_ok, gO_ok]
  generalize x.ev e = u
  generalize natV (i.ev e) = q
  cases u with
  | str l =>
    cases q with
    | none => rfl
    | some i =>
      show optK (nth l i) _ = _
      simp only
      cases nth l i with
      | none => rfl
      | some c =>
        show Bool.rec (motive := fun _ => R) _ _ (Nat.ble c 255) = K (.int .u8 (decB c)) s
        cases h : Nat.ble c 255
        · rfl
        · simp only [decB, h]
  | _ => rfl
theorem oIdx_ok (z : Nat) (x i : Opd) (e : Env) (s : St) (K : KV) : oIdx z (gO x) (gO i) e s K = runV (evP e (.idx z x i)) s K := by
  unfold oIdx
  simp only [evP, natVK_ok, nthK_ok, forceN_ok, cellsK_ok]
  rw [gO_ok, gO_ok]
  generalize x.ev e = u
  generalize natV (i.ev e) = q
  cases u with
  | ref r =>
    cases r with
    | hsl z1 b off n cap =>
      cases q with
      | none => rfl
      | some i =>
        show Bool.rec (motive := fun _ => R) _ (Bool.rec (motive := fun _ => R) _ _ (Nat.ble (i + 1) n)) (Nat.beq z z1) = _
        simp only
        cases Nat.beq z z1
        · rfl
        · cases Nat.ble (i + 1) n <;> rfl
    | _ => rfl
  | lst h xs =>
    cases h with
    | vsl z1 tok st xc =>
      cases q with
      | none => rfl
      | some i =>
        show Bool.rec (motive := fun _ => R) _ (optK (nth xs i) _) (Nat.beq z z1) = _
        simp only
        cases Nat.beq z z1
        · rfl
        · show optK (nth xs i) _ = _
          cases nth xs i <;> rfl
    | _ => rfl
  | _ => rfl
theorem natG_ok (o : Option Opd) (d : Nat) (e : Env) (K : Nat → R) : natG (o.map gO) d e K = optK (evo e o) (fun q => K (q.getD d)) := by
  cases o with
  | none => rfl
  | some x =>
    show natVK (gO x e) K = _
    rw [natVK_ok, gO_ok]
    simp only [evo]
    cases natV (x.ev e) <;> rfl
theorem m3 {α : Type} (p q : Bool) (x : α) : (match true, p, q with | true, true, true => some x | _, _, _ => none) = match p, q with | true, true => some x | _, _ => none := by cases p <;> cases q <;> rfl
theorem bnds_none (n : Nat) (lo hi : Option Nat) : bnds n n lo hi none = match Nat.ble (hi.getD n) n, Nat.ble (lo.getD 0) (hi.getD n) with | true, true => some (lo.getD 0, hi.getD n, n) | _, _ => none := by
  have h : Nat.ble n n = true := Nat.ble_eq_true_of_le (Nat.le_refl n)
  cases lo <;> cases hi <;> simp only [bnds, h, Option.getD_none, Option.getD_some] <;> first | exact m3 _ _ _ | (cases n <;> rfl)
theorem slcSK_ok (l : List Nat) (lo hi : Option Opd) (e : Env) (s : St) (K : KV) : slcSK l (lo.map gO) (hi.map gO) e s K = optK (evo e lo) (fun a => optK (evo e hi) (fun b => runV (slcV 0 (.str l) a b none) s K)) := by
  unfold slcSK
  simp only [natG_ok, lenF_ok, dropK_ok, takeK_ok]
  cases evo e lo with
  | none => rfl
  | some a =>
    cases evo e hi with
    | none => rfl
    | some b =>
      show Bool.rec (motive := fun _ => R) _ (Bool.rec (motive := fun _ => R) _ _ (Nat.ble (a.getD 0) (b.getD (len l)))) (Nat.ble (b.getD (len l)) (len l)) = runV (slcV 0 (.str l) a b none) s K
      simp only [slcV, bnds_none]
      cases Nat.ble (b.getD (len l)) (len l)
      · rfl
      · cases Nat.ble (a.getD 0) (b.getD (len l)) <;> rfl
theorem slcVK_ok (z tok st : Nat) (xc : Option Nat) (xs : List AV) (lo hi : Option Opd) (e : Env) (s : St) (K : KV) : slcVK (z + 1) tok st xc xs (lo.map gO) (hi.map gO) e s K =
    optK (evo e lo) (fun a => optK (evo e hi) (fun b => runV (slcV (z + 1) (.lst (.vsl (z + 1) tok st xc) xs) a b none) s K)) := by
  unfold slcVK
  simp only [natG_ok, lenF_ok, dropK_ok, takeK_ok, forceN_ok]
  cases evo e lo with
  | none => rfl
  | some a =>
    cases evo e hi with
    | none => rfl
    | some b =>
      show Bool.rec (motive := fun _ => R) _ (Bool.rec (motive := fun _ => R) _ _ (Nat.ble (a.getD 0) (b.getD (len xs)))) (Nat.ble (b.getD (len xs)) (len xs)) = runV (slcV (z + 1) (.lst (.vsl (z + 1) tok st xc) xs) a b none) s K
      simp only [slcV, bnds_none, Nat.beq_refl]
      cases Nat.ble (b.getD (len xs)) (len xs)
      · rfl
      · cases Nat.ble (a.getD 0) (b.getD (len xs))
        · rfl
        · cases xc <;> rfl
theorem evo_none (e : Env) : evo e none = some none := rfl
theorem slc_ev (z : Nat) (x : Opd) (lo hi : Option Opd) (e : Env) (s : St) (K : KV) : runV (evP e (.slc z x lo hi none)) s K = optK (evo e lo) (fun a => optK (evo e hi) (fun b => runV (slcV z (x.ev e) a b none) s K)) := by
  simp only [evP, evo_none]
  cases evo e lo with
  | none => rfl
  | some a => cases evo e hi <;> rfl
theorem oSlc_ok (z : Nat) (x : Opd) (lo hi : Option Opd) (e : Env) (s : St) (K : KV) : oSlc z (gO x) (lo.map gO) (hi.map gO) (oPs (.slc z x lo hi none)) e s K = runV (evP e (.slc z x lo hi none)) s K := by
  have hD : oPs (.slc z x lo hi none) e s K = runV (evP e (.slc z x lo hi none)) s K := rfl
  unfold oSlc
  rw [hD, gO_ok]
  have hs := slc_ev z x lo hi e s K
  generalize x.ev e = u at hs
  have no : ∀ (z : Nat) (u : AV), (∀ a b, slcV z u a b none = none) → optK (evo e lo) (fun a => optK (evo e hi) (fun b => runV (slcV z u a b none) s K)) = .no := by
    intro z u h
    cases evo e lo with
    | none => rfl
    | some a =>
      cases evo e hi with
      | none => rfl
      | some b => show runV (slcV z u a b none) s K = .no; rw [h]; rfl
  cases u with
  | str l =>
    cases z with
    | zero => rw [hs]; exact slcSK_ok l lo hi e s K
    | succ z => rw [hs]; exact (no _ _ fun _ _ => rfl).symm
  | lst h xs =>
    cases h with
    | vsl z1 tok st xc =>
      cases z with
      | zero => rw [hs]; exact (no _ _ fun _ _ => rfl).symm
      | succ z =>
        show Bool.rec (motive := fun _ => R) _ (slcVK (z + 1) tok st xc xs (lo.map gO) (hi.map gO) e s K) (Nat.beq (z + 1) z1) = _
        rw [slcVK_ok]
        cases hb : Nat.beq (z + 1) z1
        · rw [hs]
          refine (no _ _ fun a b => ?_).symm
          simp only [slcV, hb]
        · have := Nat.eq_of_beq_eq_true hb
          subst this
          exact hs.symm
    | _ => rfl
  | _ => rfl
theorem oFldv_ok (ag : Bool) (n off : Nat) (x : Opd) (e : Env) (s : St) (K : KV) : oFldv ag n off (gO x) e s K = runV (evP e (.fldv ag n off x)) s K := by
  unfold oFldv
  simp only [evP, rdK_ok]
  rw [gO_ok]
  generalize x.ev e = u
  cases u with
  | lst h cs => cases h <;> rfl
  | _ => rfl
theorem oIdxv_ok (ag : Bool) (n z : Nat) (x i : Opd) (e : Env) (s : St) (K : KV) : oIdxv ag n z (gO x) (gO i) e s K = runV (evP e (.idxv ag n z x i)) s K := by
  unfold oIdxv
  simp only [evP, natVK_ok, rdK_ok]
  rw [gO_ok, gO_ok]
  generalize x.ev e = u
  generalize natV (i.ev e) = q
  cases u with
  | lst h cs =>
    cases h with
    | agg =>
      cases q with
      | none => rfl
      | some i =>
        show Bool.rec (motive := fun _ => R) _ _ (Nat.ble (i + 1) n) = _
        simp only
        cases Nat.ble (i + 1) n <;> rfl
    | _ => rfl
  | _ => rfl
theorem oIdxa_ok (n z : Nat) (x i : Opd) (e : Env) (s : St) (K : KV) : oIdxa n z (gO x) (gO i) e s K = runV (evP e (.idxa n z x i)) s K := by
  unfold oIdxa
  simp only [evP, natVK_ok, forceN_ok]
  rw [gO_ok, gO_ok]
  generalize x.ev e = u
  generalize natV (i.ev e) = q
  cases u with
  | ref r =>
    cases r with
    | ptr b o =>
      cases q with
      | none => rfl
      | some i =>
        show Bool.rec (motive := fun _ => R) _ _ (Nat.ble (i + 1) n) = _
        simp only
        cases Nat.ble (i + 1) n <;> rfl
    | _ => rfl
  | lst h cs =>
    cases h with
    | eptr o =>
      cases q with
      | none => rfl
      | some i =>
        show Bool.rec (motive := fun _ => R) _ _ (Nat.ble (i + 1) n) = _
        simp only
        cases Nat.ble (i + 1) n <;> rfl
    | _ => rfl
  | _ => rfl
noncomputable def bParts : List (Nat × Nat × Opd) → Bp
  | [] => bN
  | (off, n, x) :: r => bC off n (gO x) (bParts r)
theorem bParts_ok : ∀ (ps : List (Nat × Nat × Opd)) (cs : List AV) (e : Env) (K : List AV → R), bParts ps cs e K = optK (fillP e cs ps) K
  | [], cs, e, K => rfl
  | (off, n, x) :: r, cs, e, K => by
    show bC off n (gO x) (bParts r) cs e K = _
    unfold bC
    simp only [cellsQK_ok, gO_ok, lenF_ok, setAtK_ok, fillP]
    cases cellsQ (x.ev e) with
    | none => rfl
    | some vs =>
      show Bool.rec (motive := fun _ => R) _ _ (Nat.beq (len vs) n) = _
      simp only
      cases Nat.beq (len vs) n
      · rfl
      · show optK (setAt cs off vs) _ = _
        simp only
        cases setAt cs off vs with
        | none => rfl
        | some cs => exact bParts_ok r cs e K
theorem oBuild_ok (z : List AV) (ps : List (Nat × Nat × Opd)) (e : Env) (s : St) (K : KV) : oBuild z (bParts ps) e s K = runV (evP e (.build z ps)) s K := by
  unfold oBuild
  rw [bParts_ok]
  simp only [evP]
  cases fillP e z ps <;> rfl

end KK
end Den

set_option autoImplicit false
set_option linter.unusedVariables false
namespace Den
open Go
namespace KK
theorem oLd_ok (ag : Bool) (n : Nat) (a : Opd) (e : Env) (s : St) (K : KV) : oLd ag n (gO a) e s K = runV (evR e s (.ld ag n a)) s K := by
  unfold oLd
  simp only [evR, cellsAtK_ok, rdK_ok]
  rw [gO_ok]
  generalize a.ev e = u
  cases u with
  | ref r =>
    cases r with
    | ptr b o => show optK (cellsAt s b) _ = _; simp only; cases cellsAt s b <;> rfl
    | _ => rfl
  | lst h cs => cases h <;> rfl
  | _ => rfl
theorem bytesK_ok : ∀ (xs : List AV) (K : List Nat → R) (D : R), bytesK xs K D = D ∨ ∃ l, bytesOf xs = some l ∧ bytesK xs K D = K l
  | [], K, D => .inr ⟨[], rfl, rfl⟩
  | .int k n :: xs, K, D => by
    cases n with
    | l q ts => exact .inl rfl
    | c n =>
      cases n with
      | negSucc m => exact .inl rfl
      | ofNat m =>
        have e : bytesK (.int k (.c (.ofNat m)) :: xs) K D = Bool.rec (motive := fun _ => R) D (Bool.rec (motive := fun _ => R) D (bytesK xs (fun r => K (m :: r)) D) (Nat.ble m 255)) (kEq k .u8) := rfl
        rw [e, kEq_ok]
        cases hk : (k == .u8)
        · exact .inl rfl
        · have := eq_of_beq hk
          subst this
          cases hm : Nat.ble m 255
          · exact .inl rfl
          · rcases bytesK_ok xs (fun r => K (m :: r)) D with h | ⟨l, h1, h2⟩
            · exact .inl h
            · refine .inr ⟨m :: l, ?_, h2⟩
              simp only [bytesOf, encB, hm, h1]
  | .bool _ :: xs, K, D => .inl rfl
  | .str _ :: xs, K, D => .inl rfl
  | .ref _ :: xs, K, D => .inl rfl
  | .lst _ _ :: xs, K, D => .inl rfl
theorem oCvts_ok (x : Opd) (e : Env) (s : St) (K : KV) : oCvts (gO x) (oRs (.cvts x)) e s K = runV (evR e s (.cvts x)) s K := by
  have hD : oRs (.cvts x) e s K = runV (evR e s (.cvts x)) s K := rfl
  unfold oCvts
  rw [hD, gO_ok]
  simp only [evR]
  generalize x.ev e = u
  cases u with
  | lst h xs =>
    cases h with
    | vsl z tok st xc =>
      show Bool.rec (motive := fun _ => R) _ _ (Nat.beq z 1) = _
      cases hz : Nat.beq z 1
      · by_cases h1 : z = 1
        · subst h1; cases hz
        · simp only
          split
          · rename_i heq; cases heq
          · rename_i heq
            injection heq with h2 h3
            injection h2 with h2
            exact absurd h2 h1
          · rename_i heq; cases heq
          · rfl
      · have := Nat.eq_of_beq_eq_true hz
        subst this
        show bytesK xs _ _ = _
        have key : ∀ D, D = runV (match bytesOf xs with | some l => some (.str l) | none => none) s K → bytesK xs (fun l => K (.str l) s) D = D := by
          intro D hD
          rcases bytesK_ok xs (fun l => K (.str l) s) D with h | ⟨l, h1, h2⟩
          · exact h
          · rw [h2, hD, h1]; rfl
        exact key _ rfl
    | _ => rfl
  | _ => rfl
theorem oAlloc_ok (z : List AV) (e : Env) (s : St) (K : KV) : oAlloc z e s K = runO (evA e s (.alloc z)) K := by
  unfold oAlloc
  rw [newBlkK_ok]; rfl
theorem oAllocT_ok (t : Nat) (z : List AV) (e : Env) (s : St) (K : KV) : oAllocT t z e s K = runO (evA e s (.allocT t z)) K := by
  unfold oAllocT
  rw [newBlkK_ok]; rfl
theorem oBox_ok (n : Nat) (x : Opd) (e : Env) (s : St) (K : KV) : oBox (gO x) e s K = runO (evA e s (.box n x)) K := by
  unfold oBox
  simp only [cellsQK_ok, newBlkK_ok, gO_ok, evA, made]
  cases cellsQ (x.ev e) <;> rfl
/-! ### a slice built of elements of one cell each -/
def okParts : Nat → List (Nat × Opd) → Bool
  | _, [] => true
  | i, (j, _) :: r => Nat.beq j i && okParts (i + 1) r
noncomputable def lParts : List (Nat × Opd) → Bp
  | [] => lN
  | (_, x) :: r => lC (gO x) (lParts r)
def oneQ (e : Env) : List (Nat × Opd) → Option (List AV)
  | [] => some []
  | (_, x) :: r => match cellsQ (x.ev e) with
    | some [v] => (match x.ev e with | .lst .agg _ => none | _ => (match oneQ e r with | some l => some (x.ev e :: l) | none => none))
    | _ => none
theorem lC_ok (x : Opd) (r : Bp) (acc : List AV) (e : Env) (K : List AV → R) : lC (gO x) r acc e K = match x.ev e with | .lst .agg _ => .no | .lst .tup _ => .no | v => r acc e (fun l => K (v :: l)) := by
  unfold lC
  rw [gO_ok]
  generalize x.ev e = u
  cases u with
  | lst h xs => cases h <;> rfl
  | _ => rfl
def notAg : AV → Bool | .lst .agg _ => false | .lst .tup _ => false | _ => true
theorem notAg_cells {v : AV} (h : notAg v = true) : cellsQ v = some [v] := by
  cases v with
  | lst q xs => cases q <;> first | rfl | cases h
  | _ => rfl
theorem lParts_ok : ∀ (ps : List (Nat × Opd)) (acc : List AV) (e : Env) (K : List AV → R), lParts ps acc e K = .no ∨ ((∀ p ∈ ps, notAg (p.2.ev e) = true) ∧ lParts ps acc e K = K (ps.map (fun p => p.2.ev e) ++ acc))
  | [], acc, e, K => .inr ⟨by simp, rfl⟩
  | (j, x) :: r, acc, e, K => by
    show lC (gO x) (lParts r) acc e K = .no ∨ _
    rw [lC_ok]
    by_cases hn : notAg (x.ev e) = true
    · have he : (match x.ev e with | .lst .agg _ => R.no | .lst .tup _ => .no | v => lParts r acc e (fun l => K (v :: l))) = lParts r acc e (fun l => K (x.ev e :: l)) := by
        generalize x.ev e = u at hn
        cases u with
        | lst q xs => cases q <;> first | rfl | cases hn
        | _ => rfl
      rw [he]
      rcases lParts_ok r acc e (fun l => K (x.ev e :: l)) with h | ⟨h1, h2⟩
      · exact .inl h
      · refine .inr ⟨fun p hp => ?_, ?_⟩
        · rcases List.mem_cons.1 hp with rfl | hp
          · exact hn
          · exact h1 p hp
        · show lC (gO x) (lParts r) acc e K = _
          rw [lC_ok, he, h2]; rfl
    · left
      generalize x.ev e = u at hn
      cases u with
      | lst q xs => cases q <;> first | rfl | exact absurd rfl hn
      | _ => exact absurd rfl hn
theorem fill_all {e : Env} : ∀ (ps : List (Nat × Opd)) (pre : List AV) (rest : List AV), okParts pre.length ps = true → (∀ p ∈ ps, notAg (p.2.ev e) = true) → rest.length = ps.length →
    fillE e 1 (pre ++ rest) ps = some (pre ++ ps.map (fun p => p.2.ev e))
  | [], pre, rest, _, _, hl => by
    have : rest = [] := List.eq_nil_of_length_eq_zero hl
    subst this; rfl
  | (j, x) :: r, pre, rest, ho, hn, hl => by
    simp only [okParts, Bool.and_eq_true] at ho
    have hj := Nat.eq_of_beq_eq_true ho.1
    subst hj
    cases rest with
    | nil => simp at hl
    | cons c rest =>
      have hx := notAg_cells (hn (pre.length, x) (by simp))
      have hset : ∀ (pre rest : List AV) (v c : AV), setAt (pre ++ c :: rest) pre.length [v] = some (pre ++ v :: rest) := by
        intro pre rest v c
        induction pre with
        | nil => simp [setAt, ovr]
        | cons p pre ih => simp only [List.cons_append, List.length_cons, setAt, ih]
      simp only [fillE, hx, len, Nat.mul_one]
      rw [hset]
      simp only
      have := fill_all r (pre ++ [x.ev e]) rest (by simpa using ho.2) (fun p hp => hn p (by simp [hp])) (by simpa using hl)
      simpa using this
theorem elems_all : ∀ (l : List AV), elems false 1 l.length l = some l
  | [] => rfl
  | v :: l => by simp only [List.length_cons, elems, rd, nth, dr, elems_all l]
theorem oBsl1_ok {u n : Nat} {zero : List AV} {ps : List (Nat × Opd)} (hz : zero.length = 1) (hn : n = ps.length) (ho : okParts 0 ps = true) (e : Env) (s : St) (K : KV) :
    oBsl1 u 1 n (lParts ps) e s K = .no ∨ oBsl1 u 1 n (lParts ps) e s K = runO (evA e s (.bsl false false u 1 n zero ps)) K := by
  unfold oBsl1
  rcases lParts_ok ps [] e (fun xs => newTokK s u n (fun t s => K (.lst (.vsl 1 t 0 (some n)) xs) s)) with h | ⟨h1, h2⟩
  · exact .inl h
  · right
    rw [h2, newTokK_ok]
    have hr : (rep n zero).length = ps.length := by rw [rep_length, hz, hn, Nat.mul_one]
    have hf := fill_all (e := e) ps [] (rep n zero) ho h1 hr
    simp only [List.nil_append] at hf
    simp only [evA, made, hf]
    have he := elems_all (ps.map fun p => p.2.ev e)
    rw [List.length_map, ← hn] at he
    rw [he]
    simp only [List.append_nil, Made.put, mkSl, len_eq, List.length_map, ← hn, runO]
/-! ### effects -/
theorem stK_ok (n : Nat) (a x : Opd) (e : Env) (s : St) (K : KV) : oSt n (gO a) (gO x) e s K = runO (evE e s (.st n a x)) K := by
  unfold oSt stK
  simp only [cellsAtK_ok, cellsQK_ok, lenF_ok, setAtK_ok, setBlkK_ok, gO_ok, evE]
  generalize a.ev e = u
  cases u with
  | ref r =>
    cases r with
    | ptr b o =>
      show optK (cellsAt s b) _ = _
      simp only
      cases cellsAt s b with
      | none => rfl
      | some cs =>
        show optK (cellsQ (x.ev e)) _ = _
        simp only
        cases cellsQ (x.ev e) with
        | none => rfl
        | some vs =>
          show Bool.rec (motive := fun _ => R) _ _ (Nat.beq (len vs) n) = _
          simp only
          cases Nat.beq (len vs) n
          · rfl
          · show optK (setAt cs o vs) _ = _
            simp only
            cases setAt cs o vs <;> rfl
    | _ => rfl
  | _ => rfl
theorem itemsK_ok (ag : Bool) (z : Nat) (y : AV) (s : St) (K : List AV → R) (D : R) : itemsK z y K D = D ∨ ∃ ys, itemsOf s ag z y = some ys ∧ itemsK z y K D = K ys := by
  unfold itemsK
  cases y with
  | ref r =>
    cases r with
    | nilsl => exact .inr ⟨[], rfl, rfl⟩
    | _ => exact .inl rfl
  | lst h xs =>
    cases h with
    | vsl z1 tok st xc =>
      show Bool.rec (motive := fun _ => R) D (K xs) (Nat.beq z z1) = D ∨ ∃ ys, (match Nat.beq z z1 with | true => some xs | false => none) = some ys ∧ Bool.rec (motive := fun _ => R) D (K xs) (Nat.beq z z1) = K ys
      cases Nat.beq z z1
      · exact .inl rfl
      · exact .inr ⟨xs, rfl, rfl⟩
    | _ => exact .inl rfl
  | _ => exact .inl rfl
theorem oApp_ok (ag : Bool) (u z : Nat) (x y : Opd) (e : Env) (s : St) (K : KV) : oApp u z (gO x) (gO y) (oEs (.app false ag u z x y)) e s K = runO (evE e s (.app false ag u z x y)) K := by
  have hD : oEs (.app false ag u z x y) e s K = runO (evE e s (.app false ag u z x y)) K := rfl
  unfold oApp
  rw [hD, gO_ok, gO_ok]
  rcases itemsK_ok ag z (y.ev e) s (fun ys => List.rec (motive := fun _ => R) (runO (evE e s (.app false ag u z x y)) K) (fun y0 yr _ => _) ys) (runO (evE e s (.app false ag u z x y)) K) with h | ⟨ys, h1, h2⟩
  · exact h
  · rw [h2]
    cases ys with
    | nil => rfl
    | cons y0 yr =>
      have hv : evE e s (.app false ag u z x y) = appV false ag u z s (x.ev e) (y.ev e) := rfl
      rw [hv]
      simp only [appV, h1]
      generalize x.ev e = q
      cases q with
      | ref r =>
        cases r with
        | nilsl =>
          show Bool.rec (motive := fun _ => R) _ _ (Nat.ble (lenF (y0 :: yr)) 16777216) = _
          rw [newTokK_ok, lenF_ok]
          have e1 : lenV (.ref .nilsl) + len (y0 :: yr) = len (y0 :: yr) := Nat.zero_add _
          rw [e1]
          cases Nat.ble (len (y0 :: yr)) 16777216 <;> rfl
        | _ => rfl
      | lst h xs =>
        cases h with
        | vsl z1 tok st xc =>
          show Bool.rec (motive := fun _ => R) _ (Bool.rec (motive := fun _ => R) _ _ (Nat.beq z z1)) (Nat.ble (lenF xs + lenF (y0 :: yr)) 16777216) = _
          rw [lenF_ok, lenF_ok]
          have e1 : lenV (.lst (.vsl z1 tok st xc) xs) = len xs := rfl
          rw [e1]
          cases Nat.ble (len xs + len (y0 :: yr)) 16777216
          · rfl
          · show Bool.rec (motive := fun _ => R) _ _ (Nat.beq z z1) = _
            simp only
            cases hz : Nat.beq z z1
            · rfl
            · have := Nat.eq_of_beq_eq_true hz
              subst this
              cases xc with
              | some c =>
                show app2K u z tok st c xs (y0 :: yr) s K = _
                unfold app2K
                simp only [appK_ok, newTokK_ok, lenF_ok]
                show Bool.rec (motive := fun _ => R) _ _ (Nat.ble (len xs + len (y0 :: yr)) c) = _
                cases Nat.ble (len xs + len (y0 :: yr)) c <;> rfl
              | none =>
                show app1K u z tok st xs (y0 :: yr) s K _ = _
                unfold app1K
                simp only [trGetK_ok, appK_ok, putTopK_ok, lenF_ok]
                cases s.top.get tok with
                | none => rfl
                | some t =>
                  show Bool.rec (motive := fun _ => R) _ (Bool.rec (motive := fun _ => R) _ _ (Nat.beq (tok % 2) u)) (Nat.beq t (st + len xs)) = _
                  simp only
                  cases Nat.beq t (st + len xs)
                  · rfl
                  · cases Nat.beq (tok % 2) u <;> rfl
        | _ => rfl
      | _ => rfl
end KK
end Den

set_option autoImplicit false
set_option linter.unusedVariables false
namespace Den
open Go
namespace KK
/-! ### operations of every kind -/
noncomputable def kBin : BinOp → Og → Og → Opd → Opd → Ok
  | .add, x, y, _, _ => o_add x y
  | .sub, x, y, _, _ => o_sub x y
  | .mul, x, y, _, _ => o_mul x y
  | .quo, x, y, _, _ => o_quo x y
  | .rem, x, y, _, _ => o_rem x y
  | .and, x, y, _, _ => o_and x y
  | .or, x, y, _, _ => o_or x y
  | .shl, x, y, _, _ => o_shl x y
  | .shr, x, y, _, _ => o_shr x y
  | .eql, x, y, _, _ => o_eql x y
  | .neq, x, y, _, _ => o_neq x y
  | .lss, x, y, _, _ => o_lss x y
  | .leq, x, y, _, _ => o_leq x y
  | .gtr, x, y, _, _ => o_gtr x y
  | .geq, x, y, _, _ => o_geq x y
  | op, _, _, a, b => oPs (.bin op a b)
noncomputable def kP : POp → Ok
  | .mov x => oMov (gO x)
  | .nilchk x => oNil (gO x)
  | .pick c a b => oPick (gO c) (gO a) (gO b)
  | .build z ps => oBuild z (bParts ps)
  | .bin op x y => kBin op (gO x) (gO y) x y
  | .un .not x => oNot (gO x)
  | .cvti k x => oCvti k (gO x)
  | .slc z x lo hi none => oSlc z (gO x) (lo.map gO) (hi.map gO) (oPs (.slc z x lo hi none))
  | .fld off x => oFld off (gO x)
  | .fldv ag n off x => oFldv ag n off (gO x)
  | .idx z x i => oIdx z (gO x) (gO i)
  | .idxa n z x i => oIdxa n z (gO x) (gO i)
  | .idxs x i => oIdxs (gO x) (gO i)
  | .idxv ag n z x i => oIdxv ag n z (gO x) (gO i)
  | .ext x i => oExt (gO x) i
  | .lenS x => oLenS (gO x)
  | .lenT x => oLenT (gO x)
  | o => oPs o
theorem kBin_ok (op : BinOp) (x y : Opd) (e : Env) (s : St) (K : KV) : kBin op (gO x) (gO y) x y e s K = runV (evP e (.bin op x y)) s K := by
  have h : ∀ o, slowB o (gO x e) (gO y e) s K = runV (evP e (.bin o x y)) s K := by
    intro o; rw [gO_ok, gO_ok]; rfl
  cases op with
  | add => exact (o_add_ok _ _ e s K).trans (h _)
  | sub => exact (o_sub_ok _ _ e s K).trans (h _)
  | mul => exact (o_mul_ok _ _ e s K).trans (h _)
  | quo => exact (o_quo_ok _ _ e s K).trans (h _)
  | rem => exact (o_rem_ok _ _ e s K).trans (h _)
  | and => exact (o_and_ok _ _ e s K).trans (h _)
  | or => exact (o_or_ok _ _ e s K).trans (h _)
  | shl => exact (o_shl_ok _ _ e s K).trans (h _)
  | shr => exact (o_shr_ok _ _ e s K).trans (h _)
  | eql => exact (o_eql_ok _ _ e s K).trans (h _)
  | neq => exact (o_neq_ok _ _ e s K).trans (h _)
  | lss => exact (o_lss_ok _ _ e s K).trans (h _)
  | leq => exact (o_leq_ok _ _ e s K).trans (h _)
  | gtr => exact (o_gtr_ok _ _ e s K).trans (h _)
  | geq => exact (o_geq_ok _ _ e s K).trans (h _)
  | _ => rfl
theorem kP_ok (o : POp) (e : Env) (s : St) (K : KV) : kP o e s K = runV (evP e o) s K := by
  cases o with
  | mov x => show K (gO x e) s = K (x.ev e) s; rw [gO_ok]
  | nilchk x => exact oNil_ok x e s K
  | pick c a b => exact oPick_ok c a b e s K
  | build z ps => exact oBuild_ok z ps e s K
  | bin op x y => exact kBin_ok op x y e s K
  | un op x => cases op <;> first | exact oNot_ok x e s K | rfl
  | cvti k x => exact oCvti_ok k x e s K
  | slc z x lo hi mx => cases mx <;> first | exact oSlc_ok z x lo hi e s K | rfl
  | fld off x => exact oFld_ok off x e s K
  | fldv ag n off x => exact oFldv_ok ag n off x e s K
  | idx z x i => exact oIdx_ok z x i e s K
  | idxa n z x i => exact oIdxa_ok n z x i e s K
  | idxs x i => exact oIdxs_ok x i e s K
  | idxv ag n z x i => exact oIdxv_ok ag n z x i e s K
  | ext x i => exact oExt_ok x i e s K
  | lenS x => exact oLenS_ok x e s K
  | lenT x => exact oLenT_ok x e s K
  | _ => rfl
noncomputable def kR : ROp → Ok
  | .ld ag n a => oLd ag n (gO a)
  | .cvts x => oCvts (gO x) (oRs (.cvts x))
  | o => oRs o
theorem kR_ok (o : ROp) (e : Env) (s : St) (K : KV) : kR o e s K = runV (evR e s o) s K := by
  cases o with
  | ld ag n a => exact oLd_ok ag n a e s K
  | cvts x => exact oCvts_ok x e s K
  | _ => rfl
noncomputable def kBsl (u n : Nat) (zero : List AV) (ps : List (Nat × Opd)) : Ok :=
  match Nat.beq (len zero) 1 && (Nat.beq n (len ps) && okParts 0 ps) with
  | true => oBsl1 u 1 n (lParts ps)
  | false => oAs (.bsl false false u 1 n zero ps)
noncomputable def kA : AOp → Ok
  | .alloc z => oAlloc z
  | .allocT t z => oAllocT t z
  | .box _ x => oBox (gO x)
  | .bsl false false u 1 n zero ps => kBsl u n zero ps
  | o => oAs o
theorem kA_ok (o : AOp) (e : Env) (s : St) (K : KV) : kA o e s K = .no ∨ kA o e s K = runO (evA e s o) K := by
  unfold kA
  split
  · exact .inr (oAlloc_ok _ e s K)
  · exact .inr (oAllocT_ok _ _ e s K)
  · exact .inr (oBox_ok _ _ e s K)
  · rename_i u n zero ps
    unfold kBsl
    cases h : Nat.beq (len zero) 1 && (Nat.beq n (len ps) && okParts 0 ps)
    · exact .inr rfl
    · simp only [Bool.and_eq_true] at h
      obtain ⟨h1, h2, h3⟩ := h
      have e1 := Nat.eq_of_beq_eq_true h1
      have e2 := Nat.eq_of_beq_eq_true h2
      rw [len_eq] at e1 e2
      exact oBsl1_ok e1 e2 h3 e s K
  · exact .inr rfl
noncomputable def kE : EOp → Ok
  | .st n a x => oSt n (gO a) (gO x)
  | .app false ag u z x y => oApp u z (gO x) (gO y) (oEs (.app false ag u z x y))
  | o => oEs o
theorem kE_ok (o : EOp) (e : Env) (s : St) (K : KV) : kE o e s K = runO (evE e s o) K := by
  unfold kE
  split
  · exact stK_ok _ _ _ e s K
  · exact oApp_ok _ _ _ _ _ e s K
  · rfl
noncomputable def kG (g : Gd) (o : Ok) : Ok := match g with
  | none => o
  | some (d, w) => oG (gS d) w o
theorem kG_ok (g : Gd) (o : Ok) (e : Env) (s : St) (K : KV) : kG g o e s K = match wants e g with | true => o e s K | false => K (.lst .tup []) s := by
  cases g with
  | none => rfl
  | some p =>
    obtain ⟨d, w⟩ := p
    show oG (gS d) w o e s K = _
    unfold oG
    rw [gS_ok]
    simp only [wants]
    generalize e.get d = u
    cases u with
    | bool b => cases b <;> cases w <;> rfl
    | _ => rfl
noncomputable def kArgs : List Opd → Env → List AV
  | [] => aN
  | x :: l => aC (gO x) (kArgs l)
theorem kArgs_ok (e : Env) : ∀ l, kArgs l e = evs e l
  | [] => rfl
  | x :: l => by show gO x e :: kArgs l e = _; rw [gO_ok, kArgs_ok e l]; rfl
noncomputable def kC1 : Opd → List Opd → Call → Ok
  | .f id, as => cF id (kArgs as)
  | f, as => cV (gO f) (kArgs as)
def runRC (r : RC) (K : KV) : R := match r with | .ok v s => K v s | .no => .no
theorem rcK_ok (r : RC) (K : KV) : rcK r K = runRC r K := by cases r <;> rfl
def callA (C : Call) (f : Opd) (as : List Opd) (e : Env) (s : St) : RC := match f.ev e with
  | .lst (.func f n) xs => C f (tk n xs ++ (evs e as ++ dr n xs)) s
  | _ => .no
theorem kC1_ok (C : Call) (f : Opd) (as : List Opd) (e : Env) (s : St) (K : KV) : kC1 f as C e s K = runRC (callA C f as e s) K := by
  have gen : cV (gO f) (kArgs as) C e s K = runRC (callA C f as e s) K := by
    unfold cV
    simp only [callA, rcK_ok]
    rw [gO_ok, kArgs_ok]
    generalize f.ev e = u
    cases u with
    | lst h xs => cases h <;> rfl
    | _ => rfl
  cases f with
  | f id =>
    show rcK (C id (kArgs as e) s) K = _
    rw [rcK_ok, kArgs_ok]
    show _ = runRC (C id ([] ++ (evs e as ++ [])) s) K
    rw [List.nil_append, List.append_nil]
  | _ => exact gen
/-! ### steps -/
theorem same_ok (x : AV) : ∀ y, same x y = sameV x y := by
  refine AV.rec (motive_1 := fun x => ∀ y, same x y = sameV x y) (motive_2 := fun xs => ∀ ys, AV.rec_1 (motive_1 := fun _ => AV → Bool) (motive_2 := fun _ => List AV → Bool)
    (fun k n y => sameV (.int k n) y) (fun b y => sameV (.bool b) y) (fun l y => sameV (.str l) y) (fun r y => sameV (.ref r) y)
    (fun h xs ih y => (AV.rec (motive_1 := fun _ => Bool) (motive_2 := fun _ => Unit) (fun _ _ => false) (fun _ => false) (fun _ => false) (fun _ => false) (fun h1 ys _ => (Bool.rec (motive := fun _ => Bool) false (ih ys) (sameH h h1))) () (fun _ _ _ _ => ()) y))
    (fun ys => List.rec (motive := fun _ => Bool) true (fun _ _ _ => false) ys) (fun x xs ihx ihs ys => List.rec (motive := fun _ => Bool) false (fun y ys _ => Bool.rec (motive := fun _ => Bool) false (ihs ys) (ihx y)) ys) xs ys = sameL xs ys)
    (fun _ _ _ => rfl) (fun _ _ => rfl) (fun _ _ => rfl) (fun _ _ => rfl) ?_ ?_ ?_ x
  · intro h xs ih y
    cases y with
    | lst h1 ys =>
      have e : same (.lst h xs) (.lst h1 ys) = Bool.rec (motive := fun _ => Bool) false (sameL xs ys) (sameH h h1) := by rw [← ih ys]; rfl
      rw [e]
      simp only [sameV]
      cases sameH h h1 <;> rfl
    | int k n => simp only [sameV]; rfl
    | bool b => simp only [sameV]; rfl
    | str b => simp only [sameV]; rfl
    | ref b => simp only [sameV]; rfl
  · intro ys; cases ys <;> simp only [sameL]
  · intro x xs hx hxs ys
    cases ys with
    | nil => simp only [sameL]
    | cons y ys =>
      simp only [sameL]
      rw [← hxs ys, ← hx y]
      show Bool.rec (motive := fun _ => Bool) false _ (same x y) = _
      cases same x y <;> rfl
noncomputable def kStep (st : DStep) (nx : Kc) : Kc := match st with
  | .p d g o => kD (pS d) (kG g (kP o)) nx
  | .r d g o => kD (pS d) (kG g (kR o)) nx
  | .a d g o => kD (pS d) (kG g (kA o)) nx
  | .e (some d) g o => kD (pS d) (kG g (kE o)) nx
  | .e none g o => kD0 (kG g (kE o)) nx
  | .call (some d) none f as => kCall (pS d) (kC1 f as) nx
  | .call none none f as => kCall0 (kC1 f as) nx
  | .call (some d) (some (q, w)) f as => kCall (pS d) (cG (gS q) w (kC1 f as)) nx
  | .call none (some (q, w)) f as => kCall0 (cG (gS q) w (kC1 f as)) nx
  | .chk d none o => kChk (gS d) (kR o) nx
  | .chk d (some (q, w)) o => kChkG (gS q) w (gS d) (kR o) nx
def thenR (r : R) (nx : Env → St → R) : R := match r with | .ok _ e s => nx e s | .no => .no
/-- a closure answers no more than the machine -/
def Le (a b : R) : Prop := a = .no ∨ a = b
theorem Le.refl (a : R) : Le a a := .inr rfl
theorem kD_ok (d : Slot) (o : Ok) (nx : Kc) (C : Call) (n : Nat) (e : Env) (s : St) : kD (pS d) o nx C n e s = o e s (fun v s => nx C n (e.put d v) s) := by
  show o e s (fun v s => pS d e v (fun e => nx C n e s)) = _
  congr 1
  funext v s
  exact pS_ok d e v _
theorem runV_then (o : Option AV) (s : St) (d : Slot) (e : Env) (nx : Env → St → R) : runV o s (fun v s => nx (e.put d v) s) = thenR (match o with | some v => .ok .normal (e.put d v) s | none => .no) nx := by cases o <;> rfl
theorem kChk_ok (d : Slot) (o : ROp) (nx : Kc) (C : Call) (n : Nat) (e : Env) (s : St) : kChk (gS d) (kR o) nx C n e s = thenR (match evR e s o with | some v => (match sameV v (e.get d) with | true => .ok .normal e s | false => .no) | none => .no) (nx C n) := by
  unfold kChk
  rw [kR_ok]
  cases evR e s o with
  | none => rfl
  | some v =>
    show Bool.rec (motive := fun _ => R) .no (nx C n e s) (same v (gS d e)) = _
    rw [same_ok, gS_ok]
    simp only
    cases sameV v (e.get d) <;> rfl
theorem kStep_ok (st : DStep) (nx : Kc) (C : Call) (n : Nat) (e : Env) (s : St) : Le (kStep st nx C n e s) (thenR (step1 C st e s) (nx C n)) := by
  cases st with
  | p d g o =>
    right
    show kD (pS d) (kG g (kP o)) nx C n e s = _
    rw [kD_ok, kG_ok]
    simp only [step1]
    cases wants e g
    · rfl
    · simp only
      rw [kP_ok, runV_then]; rfl
  | r d g o =>
    right
    show kD (pS d) (kG g (kR o)) nx C n e s = _
    rw [kD_ok, kG_ok]
    simp only [step1]
    cases wants e g
    · rfl
    · simp only
      rw [kR_ok, runV_then]; rfl
  | a d g o =>
    show Le (kD (pS d) (kG g (kA o)) nx C n e s) _
    rw [kD_ok, kG_ok]
    simp only [step1]
    cases wants e g
    · exact .inr rfl
    · simp only
      rcases kA_ok o e s (fun v s => nx C n (e.put d v) s) with h | h
      · exact .inl h
      · rw [h]
        cases evA e s o <;> exact .inr rfl
  | e d g o =>
    right
    cases d with
    | some d =>
      show kD (pS d) (kG g (kE o)) nx C n e s = _
      rw [kD_ok, kG_ok]
      simp only [step1]
      cases wants e g
      · rfl
      · simp only
        rw [kE_ok]
        cases evE e s o <;> rfl
    | none =>
      show kG g (kE o) e s (fun _ s => nx C n e s) = _
      rw [kG_ok]
      simp only [step1]
      cases wants e g
      · rfl
      · simp only
        rw [kE_ok]
        cases evE e s o <;> rfl
  | call d g f as =>
    right
    have fin : ∀ (d : Option Slot), runRC (callA C f as e s) (fun v s => nx C n (putO e d v) s) = thenR (match f.ev e with | .lst (.func f n) xs => (match C f (tk n xs ++ (evs e as ++ dr n xs)) s with | .ok v s => .ok .normal (putO e d v) s | .no => .no) | _ => .no) (nx C n) := by
      intro d
      unfold callA
      split
      · rename_i f n xs hf
        cases C f (tk n xs ++ (evs e as ++ dr n xs)) s <;> rfl
      · rfl
    cases d with
    | some d =>
      have hput : ∀ (o : Call → Ok), kCall (pS d) o nx C n e s = o C e s (fun v s => nx C n (e.put d v) s) := by
        intro o
        show o C e s (fun v s => pS d e v (fun e => nx C n e s)) = _
        congr 1
        funext v s
        exact pS_ok d e v _
      cases g with
      | none =>
        show kCall (pS d) (kC1 f as) nx C n e s = _
        rw [hput, kC1_ok]
        exact fin (some d)
      | some p =>
        obtain ⟨q, w⟩ := p
        show kCall (pS d) (cG (gS q) w (kC1 f as)) nx C n e s = _
        rw [hput]
        show kG (some (q, w)) (kC1 f as C) e s _ = _
        rw [kG_ok]
        simp only [step1]
        cases wants e (some (q, w))
        · rfl
        · simp only
          rw [kC1_ok]
          exact fin (some d)
    | none =>
      cases g with
      | none =>
        show kC1 f as C e s (fun _ s => nx C n e s) = _
        rw [kC1_ok]
        exact fin none
      | some p =>
        obtain ⟨q, w⟩ := p
        show kG (some (q, w)) (kC1 f as C) e s (fun _ s => nx C n e s) = _
        rw [kG_ok]
        simp only [step1]
        cases wants e (some (q, w))
        · rfl
        · simp only
          rw [kC1_ok]
          exact fin none
  | chk d g o =>
    right
    cases g with
    | none => exact kChk_ok d o nx C n e s
    | some p =>
      obtain ⟨q, w⟩ := p
      have e1 : kChkG (gS q) w (gS d) (kR o) nx C n e s = match wants e (some (q, w)) with | true => kChk (gS d) (kR o) nx C n e s | false => nx C n e s := by
        unfold kChkG
        rw [gS_ok]
        simp only [wants]
        generalize e.get q = u
        cases u with
        | bool b => cases b <;> cases w <;> rfl
        | _ => rfl
      show kChkG (gS q) w (gS d) (kR o) nx C n e s = _
      rw [e1]
      simp only [step1]
      cases wants e (some (q, w))
      · rfl
      · simp only
        exact kChk_ok d o nx C n e s
end KK
end Den

set_option autoImplicit false
set_option linter.unusedVariables false
namespace Den
open Go
namespace KK
def LeC (C C' : Call) : Prop := ∀ f a s, C f a s = .no ∨ C f a s = C' f a s
noncomputable def kS : List DStep → Kc → Kc
  | [], nx => nx
  | st :: l, nx => kStep st (kS l nx)
noncomputable def kC : DC → Kc
  | .skip => kEnd
  | .seq (.reg l) b => kS l (kC b)
  | .seq a b => kSeq (kC a) (kC b)
  | .cond c a b => kCond (gO c) (kC a) (kC b)
  | .block id b => kBlock id (kC b)
  | .loop b => kLoop (kC b)
  | .exit i => kExit i
  | .ret => kRet
  | .reg l => kS l kEnd
noncomputable def kRes : List Res → Rk
  | [.tmp a] => r1 (gS a)
  | [.tmp a, .tmp b] => r2 (gS a) (gS b)
  | [.tmp a, .tmp b, .tmp c] => r3 (gS a) (gS b) (gS c)
  | l => rS l
noncomputable def kFn (fn : Fn) : FnK := ⟨kC fn.body, kRes fn.res⟩
theorem step1_le {C C' : Call} (h : LeC C C') (st : DStep) (e : Env) (s : St) : step1 C st e s = .no ∨ step1 C st e s = step1 C' st e s := by
  cases st with
  | call d g f as =>
    simp only [step1]
    split
    · split
      · rename_i f n xs hf
        rcases h f (tk n xs ++ (evs e as ++ dr n xs)) s with h' | h'
        · rw [h']; exact .inl rfl
        · rw [h']; exact .inr rfl
      · exact .inl rfl
    · exact .inr rfl
  | _ => exact .inr rfl
theorem Le.trans {a b c : R} (h : Le a b) (k : Le b c) : Le a c := by
  rcases h with h | h
  · exact .inl h
  · rw [h]; exact k
theorem kStep_le {C C' : Call} (h : LeC C C') (st : DStep) (nx : Kc) (n : Nat) (e : Env) (s : St) : Le (kStep st nx C n e s) (thenR (step1 C' st e s) (nx C n)) := by
  refine (kStep_ok st nx C n e s).trans ?_
  rcases step1_le h st e s with h' | h'
  · rw [h']; exact .inl rfl
  · rw [h']; exact .refl _
theorem thenR_le {r : R} {f g : Env → St → R} (h : ∀ e s, Le (f e s) (g e s)) : Le (thenR r f) (thenR r g) := by
  cases r with
  | no => exact .inl rfl
  | ok x e s => exact h e s
theorem kS_le {C C' : Call} (h : LeC C C') : ∀ (l : List DStep) (nx : Kc) (n : Nat) (e : Env) (s : St), Le (kS l nx C n e s) (thenR (steps C' l e s) (nx C n))
  | [], nx, n, e, s => .refl _
  | st :: l, nx, n, e, s => by
    refine (kStep_le h st (kS l nx) n e s).trans ?_
    rw [steps_cons]
    cases step1 C' st e s with
    | no => exact .inl rfl
    | ok x e1 s1 => exact kS_le h l nx n e1 s1
def seqR (r : R) (b : Env → St → R) : R := match r with | .ok .normal e s => b e s | r => r
theorem kSeq_le {a b : Kc} {C : Call} {n : Nat} {e : Env} {s : St} {ra : R} {rb : Env → St → R} (ha : Le (a C n e s) ra) (hb : ∀ e s, Le (b C n e s) (rb e s)) : Le (kSeq a b C n e s) (seqR ra rb) := by
  unfold kSeq
  rcases ha with h | h
  · rw [h]; exact .inl rfl
  · rw [h]
    cases ra with
    | no => exact .inl rfl
    | ok x e s => cases x <;> first | exact hb e s | exact .inr rfl
theorem reg_le {C C' : Call} (h : LeC C C') (l : List DStep) (nx : Kc) (n : Nat) (e : Env) (s : St) {rb : Env → St → R} (hb : ∀ e s, Le (nx C n e s) (rb e s)) : Le (kS l nx C n e s) (seqR (steps C' l e s) rb) := by
  refine (kS_le h l nx n e s).trans ?_
  cases hs : steps C' l e s with
  | no => exact .inl rfl
  | ok x e1 s1 =>
    have := steps_normal hs
    subst this
    exact hb e1 s1
theorem loopK_le {C C' : Call} {n : Nat} {b : Kc} {db : DC} (hb : ∀ e s, Le (b C n e s) (exC C' n db e s)) : ∀ (m : Nat) (e : Env) (s : St), Le (loopK b C n m e s) (loopN (exC C' n db) m e s)
  | 0, e, s => .inl rfl
  | m + 1, e, s => by
    have e1 : loopK b C n (m + 1) e s = R.rec (motive := fun _ => R) .no (fun x e s => Ex.rec (motive := fun _ => R) (loopK b C n m e s) (fun i => .ok (.exit i) e s) (.ok .ret e s) x) (b C n e s) := rfl
    rw [e1]
    simp only [loopN]
    rcases hb e s with h | h
    · rw [h]; exact .inl rfl
    · rw [h]
      cases exC C' n db e s with
      | no => exact .inl rfl
      | ok x e s => cases x <;> first | exact loopK_le hb m e s | exact .inr rfl
theorem kC_le {C C' : Call} (h : LeC C C') (n : Nat) : ∀ (dc : DC) (e : Env) (s : St), Le (kC dc C n e s) (exC C' n dc e s) := by
  intro dc
  induction dc with
  | skip => intro e s; exact .inr rfl
  | seq a b iha ihb =>
    intro e s
    have e1 : exC C' n (.seq a b) e s = seqR (exC C' n a e s) (exC C' n b) := by
      simp only [exC, seqR]; rfl
    rw [e1]
    cases a with
    | reg l => exact reg_le h l (kC b) n e s fun e s => ihb e s
    | _ => exact kSeq_le (iha e s) fun e s => ihb e s
  | cond c a b iha ihb =>
    intro e s
    show Le (kCond (gO c) (kC a) (kC b) C n e s) _
    unfold kCond
    rw [gO_ok]
    simp only [exC]
    generalize c.ev e = u
    cases u with
    | bool t => cases t <;> first | exact ihb e s | exact iha e s
    | _ => exact .inl rfl
  | block id b ihb =>
    intro e s
    show Le (kBlock id (kC b) C n e s) _
    unfold kBlock
    simp only [exC]
    rcases ihb e s with h' | h'
    · rw [h']; exact .inl rfl
    · rw [h']
      cases exC C' n b e s with
      | no => exact .inl rfl
      | ok x e s =>
        cases x with
        | exit i =>
          right
          show Bool.rec (motive := fun _ => R) _ _ (Nat.beq i id) = _
          simp only
          cases Nat.beq i id <;> rfl
        | _ => exact .inr rfl
  | loop b ihb =>
    intro e s
    show Le (loopK (kC b) C n n e s) _
    simp only [exC]
    exact loopK_le (fun e s => ihb e s) n e s
  | exit i => intro e s; exact .inr rfl
  | ret => intro e s; exact .inr rfl
  | reg l =>
    intro e s
    refine (kS_le h l kEnd n e s).trans ?_
    simp only [exC]
    cases hs : steps C' l e s with
    | no => exact .inl rfl
    | ok x e1 s1 =>
      have := steps_normal hs
      subst this
      exact .inr rfl
theorem kRes_ok (l : List Res) (e : Env) (s : St) : kRes l e s = match resVs e s l with | some vs => .ok (tupV vs) s | none => .no := by
  have gen : rS l e s = match resVs e s l with | some vs => .ok (tupV vs) s | none => .no := by
    unfold rS
    cases resVs e s l <;> rfl
  unfold kRes
  split
  · rename_i a; show RC.ok (gS a e) s = _; rw [gS_ok]; rfl
  · rename_i a b; show RC.ok (.lst .tup [gS a e, gS b e]) s = _; rw [gS_ok, gS_ok]; rfl
  · rename_i a b c; show RC.ok (.lst .tup [gS a e, gS b e, gS c e]) s = _; rw [gS_ok, gS_ok, gS_ok]; rfl
  · exact gen
theorem endK_le {l : List Res} {r r' : R} (h : Le r r') : endK (kRes l) r = .no ∨ endK (kRes l) r = endC l r' := by
  rcases h with h | h
  · rw [h]; exact .inl rfl
  · rw [h]
    cases r' with
    | no => exact .inl rfl
    | ok x e s =>
      right
      cases x with
      | exit i => rfl
      | normal => show kRes l e s = _; rw [kRes_ok]; rfl
      | ret => show kRes l e s = _; rw [kRes_ok]; rfl
theorem mkEnvK_ok (args : List AV) (K : Env → RC) : mkEnvK args K = match mkEnv args slots .empty with | some e => K e | none => .no := by
  have slow : mkS args K = match mkEnv args slots .empty with | some e => K e | none => .no := by
    unfold mkS
    cases mkEnv args slots .empty <;> rfl
  match args with
  | [] => rfl
  | [_] => rfl
  | [_, _] => rfl
  | [_, _, _] => rfl
  | [_, _, _, _] => rfl
  | [_, _, _, _, _] => rfl
  | [_, _, _, _, _, _] => rfl
  | [_, _, _, _, _, _, _] => rfl
  | [_, _, _, _, _, _, _, _] => rfl
  | _ :: _ :: _ :: _ :: _ :: _ :: _ :: _ :: _ :: _ => exact slow
def RLe (a b : RC) : Prop := a = .no ∨ a = b
theorem bodyK_le {C C' : Call} (h : LeC C C') (n : Nat) (fn : Fn) (args : List AV) (s : St) : bodyK C n (kFn fn) args s = .no ∨ bodyK C n (kFn fn) args s = bodyC C' n fn args s := by
  unfold bodyK bodyC
  rw [mkEnvK_ok]
  cases mkEnv args slots .empty with
  | none => exact .inl rfl
  | some e => exact endK_le (kC_le h n fn.body e s)
/-- the table of closures is of functions -/
def KtOK (kt : Nat → Option FnK) (tbl : Nat → Option Fn) : Prop := ∀ f k, kt f = some k → ∃ fn, tbl f = some fn ∧ k = kFn fn
theorem callK_le {kt : Nat → Option FnK} {tbl : Nat → Option Fn} {nat : Nat → Option (List AV → St → RC)} (h : KtOK kt tbl) (n : Nat) : ∀ d, LeC (callK kt nat n d) (callD tbl nat n d)
  | 0 => fun f a s => .inl rfl
  | d + 1 => by
    intro f a s
    have e1 : callK kt nat n (d + 1) f a s = Option.rec (motive := fun _ => RC) (Option.rec (motive := fun _ => RC) .no (fun fn => bodyK (callK kt nat n d) n fn a s) (kt f)) (fun g => g a s) (nat f) := rfl
    rw [e1]
    simp only [callD]
    cases nat f with
    | some g => exact .inr rfl
    | none =>
      show Option.rec (motive := fun _ => RC) .no _ (kt f) = .no ∨ Option.rec (motive := fun _ => RC) .no _ (kt f) = _
      cases hk : kt f with
      | none => exact .inl rfl
      | some k =>
        obtain ⟨fn, h1, rfl⟩ := h f k hk
        rw [h1]
        exact bodyK_le (callK_le h n d) n fn a s
/-- the table as the program's functions make it -/
def tblP (P : Program) (U : TypeId) (hp : Nat → Bool) (f : Nat) : Option Fn := match P.funcs[f]? with
  | some fn => compF P U (hp f) fn
  | none => none
theorem tblP_ok (P : Program) (U : TypeId) (hp : Nat → Bool) : TblOK P U (tblP P U hp) := by
  intro f fn h
  unfold tblP at h
  split at h
  · rename_i func hf
    exact ⟨func, hp f, hf, h⟩
  · cases h
theorem callK_ok {ρ : Vl} {w0 : World} {P : Program} {U : TypeId} {B : Nat} {hp : Nat → Bool} {kt : Nat → Option FnK} {nat : Nat → Option (List AV → St → RC)} (hm : P.follows .mixedOrders = true) (hk : KtOK kt (tblP P U hp)) (hn : CallsOK P U ρ B w0 (natC nat)) (n d : Nat) : CallsOK P U ρ B w0 (callK kt nat n d) := by
  intro f args s v s' G w rargs h hs ha
  rcases callK_le (nat := nat) hk n d f args s with h' | h'
  · rw [h'] at h; cases h
  · rw [h'] at h
    exact callD_ok hm (tblP_ok P U hp) hn n d f args s v s' G w rargs h hs ha
end KK
end Den
